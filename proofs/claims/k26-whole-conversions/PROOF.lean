import PyProof.Rows.All
import Wide.All
import OpenK.AllK
import Wide.FinOn
import HandS.ForMost
import HandS.IsInst
import HandS.Walk
import HandS.Zip
import HandS.Flow
import HandS.CallLocal
import HandS.DictComp
import HandS.HeadHook1
import HandS.Defaults
import KE.GoesNew
import HandS.Text
import HandS.HeadHook2
import HandS.Property
import KE.KStateDown
import Lean
import HandS.Head2
import HandS.TryOnly
import HandS.Style
import HandS.MapJoin
import HandS.More
import HandS.Iter
import KE.KDictPairs
import KE.KSuper
import HandS.Star
import KE.KParD
import HandS.DictTup
import HandS.SortOrd
import PyProof.DictUpdate
import KE.KUnpackStar
import HandS.Small
import KE.KDictZip
import HandS.TupAny
import HandS.MakeKwOnly
import PyProof.ReprRoads
import HandS.NamedTupSort
import HandS.Wide
import PyProof.P3Eq
import PyProof.ReprBulk
import PyProof.ReprText
import HandS.EndBits
import PySem.Challenge.RW_lateforms_k26_whole_conversions
set_option Elab.async false
set_option linter.all false
set_option maxRecDepth 100000
set_option maxHeartbeats 2000000
/-! Lay1: rules over values of data (PyData by Dp), the heap told by a relation R between before and behind. -/
namespace Lf
open PySem PySem.Spec L2
open PyProof.Rows hiding St

abbrev Fg := PySem.W.Frag
abbrev Rel := Hp → Hp → Prop
/-- all that stood stands -/
def Ex : Rel := fun H H' => ∀ a o, H a = some o → H' a = some o
theorem Ex.rfl' (H : Hp) : Ex H H := fun _ _ h => h
theorem Ex.tr {a b c : Hp} (x : Ex a b) (y : Ex b c) : Ex a c := fun p o h => y p o (x p o h)
theorem Ex.new {H : Hp} {p : Addr} {o : HO} (h : H p = none) : Ex H (upd H p o) := fun a u e => by
  rw [upd_ne (ne_of_none e h)]; exact e
theorem Ex.back {H H' : Hp} {p : Addr} (e : Ex H H') (h : H' p = none) : H p = none := by
  cases q : H p with
  | none => rfl
  | some o => rw [e p o q] at h; cases h
theorem Ex.mut {H H' : Hp} {p : Addr} {o : HO} (e : Ex H H') (h : H p = none) : Ex H (upd H' p o) := fun a u ha => by
  rw [upd_ne (ne_of_none ha h)]; exact e a u ha
/-- no dict -/
abbrev ND (o : HO) : Prop := (∀ k, o ≠ .dK k) ∧ ∀ k, o ≠ .dT k
/-- a relation that a step may be told by: all but dicts is kept -/
structure Rl (R : Rel) : Prop where
  refl : ∀ H, R H H
  trans : ∀ {a b c}, R a b → R b c → R a c
  ex : ∀ {a b}, Ex a b → R a b
  keep : ∀ {H H' a o}, R H H' → H a = some o → ND o → H' a = some o
  mt : ∀ {a b p o}, R a b → a p = none → R a (upd b p o)
/-- all that stood stands, but for the dict at n -/
def RN (n : Addr) : Rel := fun H H' => ∀ b o, H b = some o → (b ≠ n ∨ ND o) → H' b = some o
theorem rlRN (n : Addr) : Rl (RN n) := ⟨fun _ _ _ h _ => h, fun x y b o h c => y b o (x b o h c) c, fun e b o h _ => e b o h, fun x h d => x _ _ h (.inr d), fun x h b o hb c => by
  rw [upd_ne (ne_of_none hb h)]; exact x b o hb c⟩
theorem RN.ex {n : Addr} {H0 H H' : Hp} (e : Ex H0 H) (h : H0 n = none) (x : RN n H H') : Ex H0 H' := fun b o hb => x b o (e b o hb) (.inl fun z => by rw [z, h] at hb; cases hb)
theorem rlEx : Rl Ex := ⟨Ex.rfl', Ex.tr, fun h => h, fun r h _ => r _ _ h, fun r h => Ex.mut r h⟩
section
variable {R : Rel} {K : Fg} {H H' : Hp} {a : Addr} {xs : List V}
theorem Rl.rdT (r : Rl R) (x : R H H') (h : Rd H a (.tup xs)) : Rd H' a (.tup xs) := by
  rcases h with h | ⟨o, h⟩
  · exact .inl (r.keep x h ⟨(fun _ q => by cases q), fun _ q => by cases q⟩)
  · exact .inr ⟨o, r.keep x h ⟨(fun _ q => by cases q), fun _ q => by cases q⟩⟩
theorem Rl.rdL (r : Rl R) (x : R H H') (h : Rd H a (.lst xs)) : Rd H' a (.lst xs) := by
  rcases h with h | ⟨o, h⟩
  · exact .inl (r.keep x h ⟨(fun _ q => by cases q), fun _ q => by cases q⟩)
  · exact .inr ⟨o, r.keep x h ⟨(fun _ q => by cases q), fun _ q => by cases q⟩⟩
theorem Rl.sqT (r : Rl R) (x : R H H') (h : SqT K H a xs) : SqT K H' a xs := h.imp (r.rdT x) id
theorem Rl.sqL (r : Rl R) (x : R H H') (h : SqL K H a xs) : SqL K H' a xs := h.imp (r.rdL x) id
mutual
theorem Rl.dp (r : Rl R) (x : R H H') : ∀ {d : PyData} {v : V}, Dp K H v d → Dp K H' v d
  | .none, _, h => by cases h; exact .non
  | .bool b, _, h => by cases h; exact .bl b
  | .int i, _, h => by cases h; exact .int i
  | .str z, _, h => by cases h; exact .str z
  | .list ds, _, h => by
    cases h with
    | lst hs ha => exact .lst (r.sqL x hs) (Rl.dpAll r x ha)
  | .tuple ds, _, h => by
    cases h with
    | tup hs ha => exact .tup (r.sqT x hs) (Rl.dpAll r x ha)
  | .dict _, _, h => by cases h
theorem Rl.dpAll (r : Rl R) (x : R H H') : ∀ {ds : List PyData} {vs : List V}, DpAll K H vs ds → DpAll K H' vs ds
  | [], _, h => by cases h; exact .nil
  | d :: ds, _, h => by
    cases h with
    | cons h1 h2 => exact .cons (Rl.dp r x h1) (Rl.dpAll r x h2)
end
end
/-! ### data without lists stands on tuples alone -/
mutual
def nol : PyData → Bool
  | .list _ => false
  | .dict _ => false
  | .tuple ds => nolAll ds
  | .none => true
  | .bool _ => true
  | .int _ => true
  | .str _ => true
def nolAll : List PyData → Bool
  | [] => true
  | d :: ds => nol d && nolAll ds
end
section
variable {K : Fg} {H H' : Hp}
mutual
theorem dp_nol (ts : ∀ a xs, Rd H a (.tup xs) → Rd H' a (.tup xs)) : ∀ {d : PyData} {v : V}, nol d = true → Dp K H v d → Dp K H' v d
  | .none, _, _, h => by cases h; exact .non
  | .bool b, _, _, h => by cases h; exact .bl b
  | .int i, _, _, h => by cases h; exact .int i
  | .str z, _, _, h => by cases h; exact .str z
  | .list ds, _, n, _ => by unfold nol at n; cases n
  | .tuple ds, _, n, h => by
    cases h with
    | tup hs ha => exact .tup (hs.imp (ts _ _) id) (dp_nolAll ts (by unfold nol at n; exact n) ha)
  | .dict _, _, _, h => by cases h
theorem dp_nolAll (ts : ∀ a xs, Rd H a (.tup xs) → Rd H' a (.tup xs)) : ∀ {ds : List PyData} {vs : List V}, nolAll ds = true → DpAll K H vs ds → DpAll K H' vs ds
  | [], _, _, h => by cases h; exact .nil
  | d :: ds, _, n, h => by
    unfold nolAll at n
    obtain ⟨n1, n2⟩ := Bool.and_eq_true_iff.mp n
    cases h with
    | cons h1 h2 => exact .cons (dp_nol ts n1 h1) (dp_nolAll ts n2 h2)
end
theorem nolAll_map {α : Type} {f : α → PyData} : ∀ {l : List α}, (∀ x ∈ l, nol (f x) = true) → nolAll (l.map f) = true
  | [], _ => by simp [nolAll]
  | x :: l, h => by
    rw [List.map_cons]
    unfold nolAll
    rw [h x List.mem_cons_self, nolAll_map fun y hy => h y (List.mem_cons_of_mem _ hy)]
    rfl
theorem nolAll_iff : ∀ {l : List PyData}, nolAll l = true ↔ ∀ d ∈ l, nol d = true
  | [] => by simp [nolAll]
  | d :: l => by
    unfold nolAll
    rw [Bool.and_eq_true_iff, nolAll_iff]
    simp
/-- a store to what is no tuple -/
theorem tups_upd {p : Addr} {o : HO} (h : ∀ xs, ¬ Rd H p (.tup xs)) : ∀ a xs, Rd H a (.tup xs) → Rd (upd H p o) a (.tup xs) := fun a xs r => by
  have ne : a ≠ p := fun e => h xs (e ▸ r)
  rcases r with r | ⟨u, r⟩
  · exact .inl (by rw [upd_ne ne]; exact r)
  · exact .inr ⟨u, by rw [upd_ne ne]; exact r⟩
theorem no_tup {p : Addr} {o : HO} (h : H p = some o) (d : ∀ xs, o ≠ .tup xs) (d2 : ∀ u x, o ≠ .frz u x) : ∀ xs, ¬ Rd H p (.tup xs) := fun xs r => by
  rcases r with r | ⟨u, r⟩
  · rw [h] at r; cases r; exact d _ rfl
  · rw [h] at r; cases r; exact d2 _ _ rfl
end
/-! ### what a value is -/
abbrev Pv := V → Hp → Prop
abbrev Hd (K : Fg) (d : PyData) : Pv := fun v H => Dp K H v d
abbrev Hv (x : V) : Pv := fun v _ => v = x
def Mo (R : Rel) (φ : Pv) : Prop := ∀ v H H', R H H' → φ v H → φ v H'
theorem mo_d {R : Rel} (r : Rl R) {K : Fg} {d : PyData} : Mo R (Hd K d) := fun _ _ _ x h => r.dp x h
theorem mo_v {R : Rel} {x : V} : Mo R (Hv x) := fun _ _ _ _ h => h
/-- a dict of data -/
def DicR (K : Fg) (H : Hp) : List (Key × V) → List (Key × PyData) → Prop := Paired fun p q => p.1 = q.1 ∧ Dp K H p.2 q.2
def IsDic (K : Fg) (kds : List (Key × PyData)) : Pv := fun v H => ∃ a kvs, v = .ref a ∧ H a = some (.dK kvs) ∧ DicR K H kvs kds
theorem DicR.mono {R : Rel} (r : Rl R) {K : Fg} {H H' : Hp} (x : R H H') {kvs : List (Key × V)} {kds : List (Key × PyData)} (h : DicR K H kvs kds) : DicR K H' kvs kds :=
  Paired.mapP h fun _ _ q => ⟨q.1, r.dp x q.2⟩
theorem mo_dic {K : Fg} {kds : List (Key × PyData)} : Mo Ex (IsDic K kds) := fun _ _ _ x ⟨a, kvs, e, h, q⟩ => ⟨a, kvs, e, x _ _ h, q.mono rlEx x⟩
theorem DpAll.length {K : Fg} {H : Hp} : ∀ {vs : List V} {ds : List PyData}, DpAll K H vs ds → vs.length = ds.length
  | _, _, .nil => rfl
  | _, _, .cons _ t => by rw [List.length_cons, List.length_cons, DpAll.length t]
theorem DpAll.get {K : Fg} {H : Hp} : ∀ {vs : List V} {ds : List PyData} {i : Nat} {d : PyData}, DpAll K H vs ds → ds[i]? = some d → ∃ v, vs[i]? = some v ∧ Dp K H v d
  | _, _, _, _, .nil, e => by simp at e
  | _, _, 0, _, .cons h _, e => by simp at e; subst e; exact ⟨_, rfl, h⟩
  | _, _, i + 1, _, .cons _ t, e => by
    obtain ⟨v, h1, h2⟩ := DpAll.get (i := i) t (by simpa using e)
    exact ⟨v, by simpa using h1, h2⟩
theorem DpAll.getV {K : Fg} {H : Hp} : ∀ {vs : List V} {ds : List PyData} {i : Nat} {v : V}, DpAll K H vs ds → vs[i]? = some v → ∃ d, ds[i]? = some d ∧ Dp K H v d
  | _, _, _, _, .nil, e => by simp at e
  | _, _, 0, _, .cons h _, e => by simp at e; subst e; exact ⟨_, rfl, h⟩
  | _, _, i + 1, _, .cons _ t, e => by
    obtain ⟨v, h1, h2⟩ := DpAll.getV (i := i) t (by simpa using e)
    exact ⟨v, by simpa using h1, h2⟩
theorem DpAll.app {K : Fg} {H : Hp} : ∀ {vs ws : List V} {ds es : List PyData}, DpAll K H vs ds → DpAll K H ws es → DpAll K H (vs ++ ws) (ds ++ es)
  | _, _, _, _, .nil, s => s
  | _, _, _, _, .cons h t, s => .cons h (DpAll.app t s)
theorem dp_tup {K : Fg} {H : Hp} {v : V} {ds : List PyData} (h : Dp K H v (.tuple ds)) : ∃ a xs, v = .ref a ∧ SqT K H a xs ∧ DpAll K H xs ds := by
  cases h with
  | tup h1 h2 => exact ⟨_, _, rfl, h1, h2⟩
theorem dp_lst {K : Fg} {H : Hp} {v : V} {ds : List PyData} (h : Dp K H v (.list ds)) : ∃ a xs, v = .ref a ∧ SqL K H a xs ∧ DpAll K H xs ds := by
  cases h with
  | lst h1 h2 => exact ⟨_, _, rfl, h1, h2⟩
theorem dp_str {K : Fg} {H : Hp} {v : V} {x : Str} (h : Dp K H v (.str x)) : v = .str x := by cases h; rfl
theorem dp_int {K : Fg} {H : Hp} {v : V} {x : Int} (h : Dp K H v (.int x)) : v = .int x := by cases h; rfl
theorem dp_non {K : Fg} {H : Hp} {v : V} (h : Dp K H v .none) : v = .non := by cases h; rfl
theorem dp_bl {K : Fg} {H : Hp} {v : V} {b : Bool} (h : Dp K H v (.bool b)) : v = .bl b := by cases h; rfl

/-! ### readings at one place -/
def tG (R : Rel) (σ0 : St) (H0 : Hp) (φ : Pv) : TE := fun σ H Q => σ = σ0 ∧ R H0 H ∧ ∀ v H', R H H' → φ v H' → Q v H'
def tT (R : Rel) (σ0 : St) (H0 : Hp) (b : Bool) : TT := fun σ H Q => σ = σ0 ∧ R H0 H ∧ ∀ H', R H H' → Q b H'
def All2 : List Pv → List V → Hp → Prop
  | [], vs, _ => vs = []
  | φ :: φs, vs, H => ∃ v r, vs = v :: r ∧ φ v H ∧ All2 φs r H
def tA (R : Rel) (σ0 : St) (H0 : Hp) (φs : List Pv) : TA := fun σ H Q => σ = σ0 ∧ R H0 H ∧ ∀ vs H', R H H' → All2 φs vs H' → Q vs H'
def tAD (K : Fg) (R : Rel) (σ0 : St) (H0 : Hp) (ds : List PyData) : TA := fun σ H Q => σ = σ0 ∧ R H0 H ∧ ∀ vs H', R H H' → DpAll K H' vs ds → Q vs H'
def tAt (σ0 : St) (H0 : Hp) (D0 : Ends) : TS := fun D σ H => σ = σ0 ∧ H = H0 ∧ D = D0
section
variable {X : Cx} {e : Expr} {es : List Expr} {pos : Pos}
theorem PE.imp {t t' : TE} (h : PE X e t) (i : ∀ σ H Q, t' σ H Q → t σ H Q) : PE X e t' := ⟨fun pins s σ H Q I q => h.run pins s σ H Q I (i σ H Q q)⟩
theorem PT.imp {t t' : TT} (h : PT X e t) (i : ∀ σ H Q, t' σ H Q → t σ H Q) : PT X e t' := ⟨fun pins s σ H Q I q => h.run pins s σ H Q I (i σ H Q q)⟩
theorem PW.imp {t t' : TT} (h : PW X e t) (i : ∀ σ H Q, t' σ H Q → t σ H Q) : PW X e t' := ⟨fun wh pins s σ H Q I q => h.run wh pins s σ H Q I (i σ H Q q)⟩
theorem PA.imp {t t' : TA} (h : PA X es t) (i : ∀ σ H Q, t' σ H Q → t σ H Q) : PA X es t' := ⟨fun pos pins s σ H Q I q => h.run pos pins s σ H Q I (i σ H Q q)⟩
theorem PS.imp {st : Stmt} {t t' : TS} (h : PS X st t) (i : ∀ D σ H, t' D σ H → t D σ H) : PS X st t' := ⟨fun pins s σ H D I q => h.run pins s σ H D I (i D σ H q)⟩
theorem PSs.imp {st : List Stmt} {t t' : TS} (h : PSs X st t) (i : ∀ D σ H, t' D σ H → t D σ H) : PSs X st t' := ⟨fun pins s σ H D I q => h.run pins s σ H D I (i D σ H q)⟩
theorem PE.any {ι : Sort _} {t : ι → TE} (h : ∀ i, PE X e (t i)) : PE X e (fun σ H Q => ∃ i, t i σ H Q) := ⟨fun pins s σ H Q I ⟨i, q⟩ => (h i).run pins s σ H Q I q⟩
theorem PT.any {ι : Sort _} {t : ι → TT} (h : ∀ i, PT X e (t i)) : PT X e (fun σ H Q => ∃ i, t i σ H Q) := ⟨fun pins s σ H Q I ⟨i, q⟩ => (h i).run pins s σ H Q I q⟩
theorem PSs.any {st : List Stmt} {ι : Sort _} {t : ι → TS} (h : ∀ i, PSs X st (t i)) : PSs X st (fun D σ H => ∃ i, t i D σ H) := ⟨fun pins s σ H D I ⟨i, q⟩ => (h i).run pins s σ H D I q⟩
theorem PS.any {st : Stmt} {ι : Sort _} {t : ι → TS} (h : ∀ i, PS X st (t i)) : PS X st (fun D σ H => ∃ i, t i D σ H) := ⟨fun pins s σ H D I ⟨i, q⟩ => (h i).run pins s σ H D I q⟩
end

/-! ### expressions -/
section
variable {X : Cx} {R : Rel} {σ : St} {H : Hp} {e a b : Expr} {es : List Expr} {pos : Pos} {φ ψ χ : Pv}
/-- the value seen otherwise -/
theorem de_imp (h : PE X e (tG R σ H φ)) (i : ∀ v H', R H H' → φ v H' → ψ v H') (r : Rl R) : PE X e (tG R σ H ψ) :=
  PE.imp h fun _ _ _ ⟨e1, h1, k⟩ => ⟨e1, h1, fun v H' h2 p => k v H' h2 (i v H' (r.trans h1 h2) p)⟩
theorem de_is {d d' : PyData} (h : PE X e (tG R σ H (Hd X.K d))) (i : d = d') : PE X e (tG R σ H (Hd X.K d')) := by rw [← i]; exact h
/-- ahead of a step -/
theorem de_up (r : Rl R) (h : ∀ H1, R H H1 → PE X e (tG Ex σ H1 φ)) : PE X e (tG R σ H φ) :=
  PE.imp (PE.any fun (p : {H1 : Hp // R H H1}) => h p.1 p.2) fun σ' H' _ ⟨e1, h1, k⟩ => ⟨⟨H', h1⟩, e1, Ex.rfl' _, fun v H2 h2 p => k v H2 (r.ex h2) p⟩
theorem de_at (r : Rl R) {v : V} {t : TE} (h : PE X e t) (i : ∀ H1, R H H1 → ∀ Q : VK, (∀ v H2, R H1 H2 → φ v H2 → Q v H2) → t σ H1 Q) : PE X e (tG R σ H φ) :=
  PE.imp h fun _ H' Q ⟨e1, h1, k⟩ => by rw [e1]; exact i H' h1 Q k
theorem de_of {t : TE} (h : PE X e t) (i : ∀ H1, R H H1 → ∀ Q : VK, (∀ v H2, R H1 H2 → φ v H2 → Q v H2) → t σ H1 Q) : PE X e (tG R σ H φ) :=
  PE.imp h fun _ H' Q ⟨e1, h1, k⟩ => by rw [e1]; exact i H' h1 Q k
theorem de_var {i : Nat} {x : Str} {v : V} (r : Rl R) (hs : σ[i]? = some (some v)) (m : Mo R φ) (hv : φ v H) (hN : X.N[i]? = some x) (vis : Vis X.env.scope x) (hd : (x == ("__debug__" : Str)) = false := by decide) (hcd : (x == ("__classdict__" : Str)) = false := by decide) :
    PE X (.Name x pos) (tG R σ H φ) :=
  de_of (pe_var (i := i) hN vis hd hcd) fun H1 h1 Q k => ⟨v, hs, k v H1 (r.refl _) (m v H H1 h1 hv)⟩
theorem de_c {v : V} {t : TE} (r : Rl R) (h : PE X e (tC v)) (p : ∀ H1, R H H1 → φ v H1) : PE X e (tG R σ H φ) := de_of h fun H1 h1 Q k => k v H1 (r.refl _) (p H1 h1)
theorem de_int {i : Int} {j} (r : Rl R) : PE X (.Constant (.int i) j pos) (tG R σ H (Hd X.K (.int i))) := de_c (t := tC .non) r pe_int fun _ _ => .int i
theorem de_bl {b : Bool} {j} (r : Rl R) : PE X (.Constant (.bool b) j pos) (tG R σ H (Hd X.K (.bool b))) := de_c (t := tC .non) r pe_bl fun _ _ => .bl b
theorem de_non {j} (r : Rl R) : PE X (.Constant .none j pos) (tG R σ H (Hd X.K .none)) := de_c (t := tC .non) r pe_non fun _ _ => .non
theorem de_str {x : Str} {j} (r : Rl R) : PE X (.Constant (.str x) j pos) (tG R σ H (Hd X.K (.str x))) := de_c (t := tC .non) r pe_str fun _ _ => .str x
theorem de_glob {x : Str} {v : V} {u : Value} (r : Rl R) (hg : Gl X x) (hm : X.mg x = some u) (rv : RelV v u) (hd : (x == ("__debug__" : Str)) = false := by decide) : PE X (.Name x pos) (tG R σ H (Hv v)) :=
  de_c (t := tC .non) r (pe_glob hg hm rv hd) fun _ _ => rfl
theorem de_bltn {x : Str} {v : V} {u : Value} (r : Rl R) (hg : Gl X x) (hm : X.mg x = none) (hv : bootBuiltins x = some u) (rv : RelV v u) (hn : x ≠ "__name__" := by decide) (hd : (x == ("__debug__" : Str)) = false := by decide) : PE X (.Name x pos) (tG R σ H (Hv v)) :=
  de_c (t := tC .non) r (pe_bltn hg hm hv rv hn hd) fun _ _ => rfl
/-! argument lists -/
theorem da_nil (r : Rl R) : PA X [] (tA R σ H []) := PA.imp pa_nil fun _ H' _ ⟨_, _, k⟩ => k [] H' (r.refl _) rfl
theorem da_cons {φs : List Pv} (r : Rl R) (m : Mo R φ) (h : PE X e (tG R σ H φ)) (t : PA X es (tA R σ H φs)) (hs : starEach (e :: es) X.env = (false, eval e X.env) :: starEach es X.env := by rfl) : PA X (e :: es) (tA R σ H (φ :: φs)) :=
  PA.imp (pa_cons h t hs) fun _ _ _ ⟨e1, h1, k⟩ => ⟨e1, h1, fun v H2 h2 p => ⟨e1, r.trans h1 h2, fun vs H3 h3 q => k (v :: vs) H3 (r.trans h2 h3) ⟨v, vs, rfl, m v H2 H3 h3 p, q⟩⟩⟩
theorem dd_nil (r : Rl R) : PA X [] (tAD X.K R σ H []) := PA.imp pa_nil fun _ H' _ ⟨_, _, k⟩ => k [] H' (r.refl _) .nil
theorem dd_cons {d : PyData} {ds : List PyData} (r : Rl R) (h : PE X e (tG R σ H (Hd X.K d))) (t : PA X es (tAD X.K R σ H ds)) (hs : starEach (e :: es) X.env = (false, eval e X.env) :: starEach es X.env := by rfl) : PA X (e :: es) (tAD X.K R σ H (d :: ds)) :=
  PA.imp (pa_cons h t hs) fun _ _ _ ⟨e1, h1, k⟩ => ⟨e1, h1, fun v H2 h2 p => ⟨e1, r.trans h1 h2, fun vs H3 h3 q => k (v :: vs) H3 (r.trans h2 h3) (.cons (r.dp h3 p) q)⟩⟩
/-! displays -/
theorem de_tup {ds : List PyData} {x1} (r : Rl R) (h : PA X es (tAD X.K R σ H ds)) (z : ds.length ≤ sizeLine := by first | decide | (simp only [List.length_cons, List.length_nil, List.map_cons, List.map_nil]; decide)) : PE X (.Tuple es x1 pos) (tG R σ H (Hd X.K (.tuple ds))) :=
  PE.imp (pe_tup h) fun _ _ _ ⟨e1, h1, k⟩ => ⟨e1, h1, fun vs H2 h2 p => ⟨by rw [DpAll.length p]; exact z, fun q hq => k _ _ (r.trans h2 (r.ex (Ex.new hq))) (.tup (.inl (.inl upd_same)) (r.dpAll (r.ex (Ex.new hq)) p))⟩⟩
theorem de_lst {ds : List PyData} (r : Rl R) (h : PA X es (tAD X.K R σ H ds)) (z : ds.length ≤ sizeLine := by first | decide | (simp only [List.length_cons, List.length_nil, List.map_cons, List.map_nil]; decide)) : PE X (.List es pos) (tG R σ H (Hd X.K (.list ds))) :=
  PE.imp (pe_lst h) fun _ _ _ ⟨e1, h1, k⟩ => ⟨e1, h1, fun vs H2 h2 p => ⟨by rw [DpAll.length p]; exact z, fun q hq => k _ _ (r.trans h2 (r.ex (Ex.new hq))) (.lst (.inl (.inl upd_same)) (r.dpAll (r.ex (Ex.new hq)) p))⟩⟩
/-- a list of one's own, told by its place -/
def IsLst (K : Fg) (H0 : Hp) (ds : List PyData) : Pv := fun v H => ∃ l xs, v = .ref l ∧ H0 l = none ∧ H l = some (.lst xs) ∧ DpAll K H xs ds
theorem de_lstN {ds : List PyData} (h : PA X es (tAD X.K Ex σ H ds)) (z : ds.length ≤ sizeLine := by first | decide | (simp only [List.length_cons, List.length_nil, List.map_cons, List.map_nil]; decide)) : PE X (.List es pos) (tG Ex σ H (IsLst X.K H ds)) :=
  PE.imp (pe_lst h) fun _ _ _ ⟨e1, h1, k⟩ => ⟨e1, h1, fun vs H2 h2 p => ⟨by rw [DpAll.length p]; exact z, fun q hq => k _ _ (Ex.tr h2 (Ex.new hq)) ⟨q, vs, rfl, Ex.back (Ex.tr h1 h2) hq, upd_same, rlEx.dpAll (Ex.new hq) p⟩⟩⟩
/-! operators -/
theorem de_op {op : Operator} {f : R2} (r : Rl R) (o : OpR X (binaryOp op) f) (ha : PE X a (tG R σ H φ)) (m : Mo R φ) (hb : PE X b (tG R σ H ψ))
    (i : ∀ x y H2, R H H2 → φ x H2 → ψ y H2 → ∀ Q : VK, (∀ v H', R H2 H' → χ v H' → Q v H') → f x y H2 Q) : PE X (.BinOp a op b pos) (tG R σ H χ) :=
  PE.imp (pe_op o ha hb) fun _ _ _ ⟨e1, h1, k⟩ => ⟨e1, h1, fun v H2 h2 p => ⟨e1, r.trans h1 h2, fun u H3 h3 q => i v u H3 (r.trans (r.trans h1 h2) h3) (m v H2 H3 h3 p) q _ fun z H4 h4 c => k z H4 (r.trans (r.trans h2 h3) h4) c⟩⟩
theorem de_cmp {op : CmpOp} {f : R2} (r : Rl R) (o : OpR X (compareOp op) f) (ha : PE X a (tG R σ H φ)) (m : Mo R φ) (hb : PE X b (tG R σ H ψ)) (hm : behindInMarks op b = false)
    (i : ∀ x y H2, R H H2 → φ x H2 → ψ y H2 → ∀ Q : VK, (∀ v H', R H2 H' → χ v H' → Q v H') → f x y H2 Q) : PE X (.Compare a [op] [b] pos) (tG R σ H χ) :=
  PE.imp (pe_cmpR o ha hb hm) fun _ _ _ ⟨e1, h1, k⟩ => ⟨e1, h1, fun v H2 h2 p => ⟨e1, r.trans h1 h2, fun u H3 h3 q => i v u H3 (r.trans (r.trans h1 h2) h3) (m v H2 H3 h3 p) q _ fun z H4 h4 c => k z H4 (r.trans (r.trans h2 h3) h4) c⟩⟩
/-- .. as a test -/
theorem dt_cmp {op : CmpOp} {f : R2} {c : Bool} (r : Rl R) (o : OpR X (compareOp op) f) (ha : PE X a (tG R σ H φ)) (m : Mo R φ) (hb : PE X b (tG R σ H ψ)) (hm : behindInMarks op b = false)
    (i : ∀ x y H2, R H H2 → φ x H2 → ψ y H2 → ∀ Q : VK, (∀ H', R H2 H' → Q (.bl c) H') → f x y H2 Q) : PT X (.Compare a [op] [b] pos) (tT R σ H c) :=
  PT.imp (pt_cmpR o ha hb hm) fun _ _ _ ⟨e1, h1, k⟩ => ⟨e1, h1, fun v H2 h2 p => ⟨e1, r.trans h1 h2, fun u H3 h3 q => i v u H3 (r.trans (r.trans h1 h2) h3) (m v H2 H3 h3 p) q _ fun H4 h4 => ⟨c, rfl, k H4 (r.trans (r.trans h2 h3) h4)⟩⟩⟩
/-- an expression that gives a bool, as a test -/
theorem dt_val {c : Bool} (r : Rl R) (h : PE X e (tG R σ H (Hd X.K (.bool c)))) (he : ∀ whole, isTrue e X.env whole = (do let v ← whole; standAt e.pos; holding [v] (truthy v)) := by intro _; rfl) : PT X e (tT R σ H c) :=
  PT.imp (pt_val h he) fun _ _ _ ⟨e1, h1, k⟩ => ⟨e1, h1, fun v H2 h2 p => ⟨c, dp_bl p, k H2 h2⟩⟩
theorem dt_not {c : Bool} (h : PT X a (tT R σ H c)) : PT X (.UnaryOp .Not a pos) (tT R σ H (!c)) := PT.imp (pt_not h) fun _ _ _ ⟨e1, h1, k⟩ => ⟨e1, h1, fun H2 h2 => k H2 h2⟩
theorem dt_is {c c' : Bool} (h : PT X a (tT R σ H c)) (i : c = c') : PT X a (tT R σ H c') := by rw [← i]; exact h
theorem dw_and1 {c : Bool} (h : PT X a (tT R σ H c)) : PW X (.BoolOp .And [a] pos) (tT R σ H c) := pw_and1 h
theorem dw_or1 {c : Bool} (h : PT X a (tT R σ H c)) : PW X (.BoolOp .Or [a] pos) (tT R σ H c) := pw_or1 h
theorem PW.lift {t : TT} {Bp : Prop} [Decidable Bp] (h : Bp → PW X e t) : PW X e (fun σ H Q => Bp ∧ t σ H Q) := ⟨fun wh pins s σ H Q I q => (h q.1).run wh pins s σ H Q I q.2⟩
theorem dw_and {c c' : Bool} {rest : List Expr} (r : Rl R) (h : PT X a (tT R σ H c)) (h' : c = true → PW X (.BoolOp .And (b :: rest) pos) (tT R σ H c')) : PW X (.BoolOp .And (a :: b :: rest) pos) (tT R σ H (c && c')) :=
  PW.imp (pw_and h (PW.lift h')) fun _ _ _ ⟨e1, h1, k⟩ => ⟨e1, h1, fun H2 h2 => by
    cases c with
    | true => exact ⟨rfl, e1, r.trans h1 h2, fun H3 h3 => k H3 (r.trans h2 h3)⟩
    | false => exact k H2 h2⟩
theorem dw_or {c c' : Bool} {rest : List Expr} (r : Rl R) (h : PT X a (tT R σ H c)) (h' : c = false → PW X (.BoolOp .Or (b :: rest) pos) (tT R σ H c')) : PW X (.BoolOp .Or (a :: b :: rest) pos) (tT R σ H (c || c')) :=
  PW.imp (pw_or h (PW.lift h')) fun _ _ _ ⟨e1, h1, k⟩ => ⟨e1, h1, fun H2 h2 => by
    cases c with
    | false => exact ⟨rfl, e1, r.trans h1 h2, fun H3 h3 => k H3 (r.trans h2 h3)⟩
    | true => exact k H2 h2⟩
theorem dt_w {c : Bool} (h : PW X e (tT R σ H c)) : PT X e (tT R σ H c) := h.pt
/-! and, or, not as values: bools -/
theorem PE.lift {t : TE} {Bp : Prop} (h : Bp → PE X e t) : PE X e (fun σ H Q => Bp ∧ t σ H Q) := ⟨fun pins s σ H Q I q => (h q.1).run pins s σ H Q I q.2⟩
theorem de_one {op} (h : PE X a (tG R σ H φ)) : PE X (.BoolOp op [a] pos) (tG R σ H φ) := pe_one h
theorem de_and {c c' : Bool} {rest : List Expr} (r : Rl R) (h : PE X a (tG R σ H (Hd X.K (.bool c)))) (h' : c = true → PE X (.BoolOp .And (b :: rest) pos) (tG R σ H (Hd X.K (.bool c')))) : PE X (.BoolOp .And (a :: b :: rest) pos) (tG R σ H (Hd X.K (.bool (c && c')))) :=
  PE.imp (pe_and h (PE.lift h')) fun _ _ _ ⟨e1, h1, k⟩ => ⟨e1, h1, fun v H2 h2 p => ⟨c, dp_bl p, by
    cases c with
    | true => exact ⟨rfl, e1, r.trans h1 h2, fun v H3 h3 => k v H3 (r.trans h2 h3)⟩
    | false => exact k _ H2 h2 (.bl false)⟩⟩
theorem de_or {c c' : Bool} {rest : List Expr} (r : Rl R) (h : PE X a (tG R σ H (Hd X.K (.bool c)))) (h' : c = false → PE X (.BoolOp .Or (b :: rest) pos) (tG R σ H (Hd X.K (.bool c')))) : PE X (.BoolOp .Or (a :: b :: rest) pos) (tG R σ H (Hd X.K (.bool (c || c')))) :=
  PE.imp (pe_or h (PE.lift h')) fun _ _ _ ⟨e1, h1, k⟩ => ⟨e1, h1, fun v H2 h2 p => ⟨c, dp_bl p, by
    cases c with
    | false => exact ⟨rfl, e1, r.trans h1 h2, fun v H3 h3 => k v H3 (r.trans h2 h3)⟩
    | true => exact k _ H2 h2 (.bl true)⟩⟩
theorem de_not {c : Bool} (h : PE X a (tG R σ H (Hd X.K (.bool c)))) : PE X (.UnaryOp .Not a pos) (tG R σ H (Hd X.K (.bool (!c)))) :=
  PE.imp (pe_not h) fun _ _ _ ⟨e1, h1, k⟩ => ⟨e1, h1, fun v H2 h2 p => ⟨c, dp_bl p, k _ H2 h2 (.bl _)⟩⟩
theorem de_if {t : Expr} {c : Bool} (r : Rl R) (h : PT X t (tT R σ H c)) (ha : c = true → PE X a (tG R σ H φ)) (hb : c = false → PE X b (tG R σ H φ)) : PE X (.IfExp t a b pos) (tG R σ H φ) :=
  PE.imp (pe_ifExp h (PE.lift ha) (PE.lift hb)) fun _ _ _ ⟨e1, h1, k⟩ => ⟨e1, h1, fun H2 h2 => by
    cases c with
    | true => exact ⟨rfl, e1, r.trans h1 h2, fun v H3 h3 => k v H3 (r.trans h2 h3)⟩
    | false => exact ⟨rfl, e1, r.trans h1 h2, fun v H3 h3 => k v H3 (r.trans h2 h3)⟩⟩
/-! subscripts -/
theorem de_ix {f : R2} (r : Rl R) (o : IxR X f) (ha : PE X a (tG R σ H φ)) (m : Mo R φ) (hb : PE X b (tG R σ H ψ)) (hs : PlainIx b)
    (i : ∀ x y H2, R H H2 → φ x H2 → ψ y H2 → ∀ Q : VK, (∀ v H', R H2 H' → χ v H' → Q v H') → f x y H2 Q) : PE X (.Subscript a b pos) (tG R σ H χ) :=
  PE.imp (pe_ix o ha hb hs) fun _ _ _ ⟨e1, h1, k⟩ => ⟨e1, h1, fun v H2 h2 p => ⟨e1, r.trans h1 h2, fun u H3 h3 q => i v u H3 (r.trans (r.trans h1 h2) h3) (m v H2 H3 h3 p) q _ fun z H4 h4 c => k z H4 (r.trans (r.trans h2 h3) h4) c⟩⟩
theorem dp_at {K : Fg} {H : Hp} {xs : List V} {ds : List PyData} {i : Int} {d : PyData} (h : DpAll K H xs ds) (e : atI ds i = some d) : ∃ v, atI xs i = some v ∧ Dp K H v d := by
  unfold atI at e ⊢
  rw [DpAll.length h]
  cases q : ixN ds.length i with
  | none => rw [q] at e; cases e
  | some j =>
    rw [q] at e
    exact DpAll.get h e
/-- t[i], t a tuple -/
theorem de_ixT {ds : List PyData} {i : Int} {d : PyData} (r : Rl R) (ha : PE X a (tG R σ H (Hd X.K (.tuple ds)))) (hb : PE X b (tG R σ H (Hd X.K (.int i)))) (e : atI ds i = some d) (hs : PlainIx b := by exact fun _ _ => rfl) : PE X (.Subscript a b pos) (tG R σ H (Hd X.K d)) :=
  de_ix r ix_tup ha (mo_d r) hb hs fun x y H2 _ p q Q k => by
    obtain ⟨t, xs, rfl, h1, h2⟩ := dp_tup p
    obtain ⟨v, e1, e2⟩ := dp_at h2 e
    exact ⟨t, xs, i, v, rfl, dp_int q, h1, e1, k v H2 (r.refl _) e2⟩
/-- l[i], l a list -/
theorem de_ixL {ds : List PyData} {i : Int} {d : PyData} (r : Rl R) (ha : PE X a (tG R σ H (Hd X.K (.list ds)))) (hb : PE X b (tG R σ H (Hd X.K (.int i)))) (e : atI ds i = some d) (hs : PlainIx b := by exact fun _ _ => rfl) : PE X (.Subscript a b pos) (tG R σ H (Hd X.K d)) :=
  de_ix r ix_list ha (mo_d r) hb hs fun x y H2 _ p q Q k => by
    obtain ⟨t, xs, rfl, h1, h2⟩ := dp_lst p
    obtain ⟨v, e1, e2⟩ := dp_at h2 e
    exact ⟨t, xs, i, v, rfl, dp_int q, h1, e1, k v H2 (r.refl _) e2⟩
end
end Lf
set_option maxHeartbeats 2000000
/-! Lay2: promises, calls, built-ins, statements. -/
namespace Lf
open PySem PySem.Spec L2
open PyProof.Rows hiding St

/-! ### promises -/
def spT {τ : Type} (R : τ → Rel) (Pre : τ → Prop) (A : τ → List Pv) (B : τ → Pv) : Sp := fun vs H Q _ => ∃ x, Pre x ∧ All2 (A x) vs H ∧ ∀ v H', R x H H' → B x v H' → Q v H'
theorem All2.length : ∀ {φs : List Pv} {vs : List V} {H : Hp}, All2 φs vs H → vs.length = φs.length
  | [], _, _, h => by cases h; rfl
  | φ :: φs, _, _, h => by
    obtain ⟨v, r, rfl, _, t⟩ := h
    rw [List.length_cons, List.length_cons, All2.length t]
structure Fna (P : Program) (w : World) (K : Fg) (mg : Str → Option Value) (base : Heap) (k : Nat) (f : Addr) (sp : Sp) : Prop where
  ex : ∃ (fd : FuncData) (ps : List Str), FnOk P w K mg base CX0 k f fd ps sp ∧ PySem.W.keepIn K (.ref f) = true ∧ Binds K fd ps []
structure Fnc (P : Program) (w : World) (K : Fg) (mg : Str → Option Value) (base : Heap) (k : Nat) (nm : Str) (sp : Sp) : Prop where
  gl : mg nm = some (.ref (He.ga K nm))
  fn : Fna P w K mg base k (He.ga K nm) sp
theorem Fna.imp {P : Program} {w : World} {K : Fg} {mg : Str → Option Value} {base : Heap} {k : Nat} {f : Addr} {sp sp' : Sp} (c : Fna P w K mg base k f sp) (i : ∀ vs H Q E, sp' vs H Q E → sp vs H Q E) : Fna P w K mg base k f sp' := by
  obtain ⟨fd, ps, F, kp, b⟩ := c.ex
  exact ⟨fd, ps, F.imp i, kp, b⟩
theorem Fnc.imp {P : Program} {w : World} {K : Fg} {mg : Str → Option Value} {base : Heap} {k : Nat} {nm : Str} {sp sp' : Sp} (c : Fnc P w K mg base k nm sp) (i : ∀ vs H Q E, sp' vs H Q E → sp vs H Q E) : Fnc P w K mg base k nm sp' := ⟨c.gl, c.fn.imp i⟩
section
variable {X : Cx} {R : Rel} {σ : St} {H : Hp} {e a b : Expr} {es : List Expr} {p pos : Pos} {φ ψ χ : Pv} {τ : Type} {R' : τ → Rel} {Pre : τ → Prop} {A : τ → List Pv} {B : τ → Pv} {k j : Nat} {nm : Str}
theorem call_in {f : Addr} {t : TA} (x : τ) (r : Rl R) (pre : Pre x) (le : ∀ a b, R' x a b → R a b) (h : PE X e (tCall (spT R' Pre A B) [] E0 t)) (ht : ∀ H1 Q, R H H1 → (∀ vs H2, R H1 H2 → All2 (A x) vs H2 → Q vs H2) → t σ H1 Q) : PE X e (tG R σ H (B x)) :=
  de_of h fun H1 h1 Q k => ht H1 _ h1 fun vs H2 h2 q => by
    show spT R' Pre A B (vs ++ []) H2 Q E0
    rw [List.append_nil]
    exact ⟨x, pre, q, fun v H3 h3 bq => k v H3 (r.trans h2 (le _ _ h3)) bq⟩
/-- f(e, ..), f a def of the module -/
theorem de_call (c : Fnc X.prog X.w X.K X.mg X.base k nm (spT R' Pre A B)) (x : τ) (r : Rl R) (hr : Room j X.A) (hk : k ≤ j) (pre : Pre x) (le : ∀ a b, R' x a b → R a b) (hg : Gl X nm) (ha : PA X (e :: es) (tA R σ H (A x)))
    (hdb : (nm == ("__debug__" : Str)) = false := by decide) (he : starEach (e :: es) X.env = (false, eval e X.env) :: starEach es X.env := by rfl) (hpl : (backTo pos (starEach es X.env)).any (·.1) = false := by rfl) : PE X (.Call (.Name nm p) (e :: es) [] pos) (tG R σ H (B x)) := by
  obtain ⟨gl, ⟨fd, ps, F, kp, b⟩⟩ := c
  exact call_in (f := 0) x r pre le (pe_call F (hr.mono hk) hg gl kp b .nil pass0 ha hdb he hpl) fun H1 Q h1 q => ⟨rfl, h1, q⟩
/-- x(e, ..), x a local that holds the def at f -/
theorem de_callL {f : Addr} {i : Nat} (c : Fna X.prog X.w X.K X.mg X.base k f (spT R' Pre A B)) (x : τ) (r : Rl R) (hr : Room j X.A) (hk : k ≤ j) (pre : Pre x) (le : ∀ a b, R' x a b → R a b) (hs : σ[i]? = some (some (.ref f))) (hN : X.N[i]? = some nm) (hv : Vis X.env.scope nm)
    (ha : PA X (e :: es) (tA R σ H (A x))) (hdb : (nm == ("__debug__" : Str)) = false := by decide) (hcd : (nm == ("__classdict__" : Str)) = false := by decide)
    (he : starEach (e :: es) X.env = (false, eval e X.env) :: starEach es X.env := by rfl) (hpl : (backTo pos (starEach es X.env)).any (·.1) = false := by rfl) : PE X (.Call (.Name nm p) (e :: es) [] pos) (tG R σ H (B x)) := by
  obtain ⟨fd, ps, F, kp, b⟩ := c.ex
  refine de_of (pe_callL (i := i) F (hr.mono hk) hN hv kp b .nil pass0 ha hdb hcd he hpl) fun H1 h1 Q k => ⟨hs, rfl, h1, fun vs H2 h2 q => ?_⟩
  show spT R' Pre A B (vs ++ []) H2 Q E0
  rw [List.append_nil]
  exact ⟨x, pre, q, fun v H3 h3 bq => k v H3 (r.trans h2 (le _ _ h3)) bq⟩
/-! ### built-ins -/
theorem de_cb {id : String} {f : List V → Hp → VK → Prop} {φs : List Pv} (r : Rl R) (c : CallR X (.builtin id) f) (hg : Gl X nm) (hm : X.mg nm = none) (hv : bootBuiltins nm = some (.builtin id)) (ha : PA X (e :: es) (tA R σ H φs))
    (i : ∀ vs H1, R H H1 → All2 φs vs H1 → ∀ Q : VK, (∀ v H', R H1 H' → φ v H' → Q v H') → f vs H1 Q) (hn : nm ≠ "__name__" := by decide) (hdb : (nm == ("__debug__" : Str)) = false := by decide)
    (he : starEach (e :: es) X.env = (false, eval e X.env) :: starEach es X.env := by rfl) (hpl : (backTo pos (starEach es X.env)).any (·.1) = false := by rfl) : PE X (.Call (.Name nm p) (e :: es) [] pos) (tG R σ H φ) :=
  de_of (pe_callB c hg hm hv ha hn hdb he hpl) fun H1 h1 Q k => ⟨rfl, h1, fun vs H2 h2 q => i vs H2 (r.trans h1 h2) q Q fun v H3 h3 c => k v H3 (r.trans h2 h3) c⟩
theorem de_ct {T : String} {f : List V → Hp → VK → Prop} {φs : List Pv} (r : Rl R) (c : CallR X (.type T) f) (hg : Gl X nm) (hm : X.mg nm = none) (hv : bootBuiltins nm = some (.type T)) (ha : PA X (e :: es) (tA R σ H φs))
    (i : ∀ vs H1, R H H1 → All2 φs vs H1 → ∀ Q : VK, (∀ v H', R H1 H' → φ v H' → Q v H') → f vs H1 Q) (hn : nm ≠ "__name__" := by decide) (hdb : (nm == ("__debug__" : Str)) = false := by decide)
    (he : starEach (e :: es) X.env = (false, eval e X.env) :: starEach es X.env := by rfl) (hpl : (backTo pos (starEach es X.env)).any (·.1) = false := by rfl) : PE X (.Call (.Name nm p) (e :: es) [] pos) (tG R σ H φ) :=
  de_of (pe_callTy c hg hm hv ha hn hdb he hpl) fun H1 h1 Q k => ⟨rfl, h1, fun vs H2 h2 q => i vs H2 (r.trans h1 h2) q Q fun v H3 h3 c => k v H3 (r.trans h2 h3) c⟩
theorem all1 {φ : Pv} {vs : List V} {H : Hp} (h : All2 [φ] vs H) : ∃ v, vs = [v] ∧ φ v H := by
  obtain ⟨v, r, rfl, h1, rfl⟩ := h
  exact ⟨v, rfl, h1⟩
theorem all2 {φ ψ : Pv} {vs : List V} {H : Hp} (h : All2 [φ, ψ] vs H) : ∃ v u, vs = [v, u] ∧ φ v H ∧ ψ u H := by
  obtain ⟨v, r, rfl, h1, u, r2, rfl, h2, rfl⟩ := h
  exact ⟨v, u, rfl, h1, h2⟩
theorem all3 {φ ψ χ : Pv} {vs : List V} {H : Hp} (h : All2 [φ, ψ, χ] vs H) : ∃ v u t, vs = [v, u, t] ∧ φ v H ∧ ψ u H ∧ χ t H := by
  obtain ⟨v, r, rfl, h1, u, r2, rfl, h2, t, r3, rfl, h3, rfl⟩ := h
  exact ⟨v, u, t, rfl, h1, h2, h3⟩
theorem all4 {φ ψ χ ω : Pv} {vs : List V} {H : Hp} (h : All2 [φ, ψ, χ, ω] vs H) : ∃ v u t s, vs = [v, u, t, s] ∧ φ v H ∧ ψ u H ∧ χ t H ∧ ω s H := by
  obtain ⟨v, r, rfl, h1, u, r2, rfl, h2, t, r3, rfl, h3, s, r4, rfl, h4, rfl⟩ := h
  exact ⟨v, u, t, s, rfl, h1, h2, h3, h4⟩
/-- len of a tuple, a list -/
theorem de_lenT {ds : List PyData} (r : Rl R) (hg : Gl X "len") (hm : X.mg "len" = none) (ha : PE X e (tG R σ H (Hd X.K (.tuple ds)))) (he : starEach [e] X.env = (false, eval e X.env) :: starEach [] X.env := by rfl) :
    PE X (.Call (.Name "len" p) [e] [] pos) (tG R σ H (Hd X.K (.int (ds.length : Int)))) :=
  de_cb r call_len_seq hg hm boot_len (da_cons r (mo_d r) ha (da_nil r) he) (fun vs H1 _ q Q k => by
    obtain ⟨v, rfl, h⟩ := all1 q
    obtain ⟨a, xs, rfl, h1, h2⟩ := dp_tup h
    exact ⟨a, xs, rfl, .inr h1, by rw [DpAll.length h2]; exact k _ H1 (r.refl _) (.int _)⟩) (he := he)
theorem de_lenL {ds : List PyData} (r : Rl R) (hg : Gl X "len") (hm : X.mg "len" = none) (ha : PE X e (tG R σ H (Hd X.K (.list ds)))) (he : starEach [e] X.env = (false, eval e X.env) :: starEach [] X.env := by rfl) :
    PE X (.Call (.Name "len" p) [e] [] pos) (tG R σ H (Hd X.K (.int (ds.length : Int)))) :=
  de_cb r call_len_seq hg hm boot_len (da_cons r (mo_d r) ha (da_nil r) he) (fun vs H1 _ q Q k => by
    obtain ⟨v, rfl, h⟩ := all1 q
    obtain ⟨a, xs, rfl, h1, h2⟩ := dp_lst h
    exact ⟨a, xs, rfl, .inl h1, by rw [DpAll.length h2]; exact k _ H1 (r.refl _) (.int _)⟩) (he := he)
theorem de_lenS {x : Str} (r : Rl R) (hg : Gl X "len") (hm : X.mg "len" = none) (z : x.length ≤ sizeLine) (ha : PE X e (tG R σ H (Hd X.K (.str x)))) (he : starEach [e] X.env = (false, eval e X.env) :: starEach [] X.env := by rfl) :
    PE X (.Call (.Name "len" p) [e] [] pos) (tG R σ H (Hd X.K (.int (x.length : Int)))) :=
  de_cb r call_len_str hg hm boot_len (da_cons r (mo_d r) ha (da_nil r) he) (fun vs H1 _ q Q k => by
    obtain ⟨v, rfl, h⟩ := all1 q
    cases dp_str h
    exact ⟨x, rfl, z, k _ H1 (r.refl _) (.int _)⟩) (he := he)
/-- a value's built-in type -/
def tyN : PyData → String
  | .none => "NoneType"
  | .bool _ => "bool"
  | .int _ => "int"
  | .str _ => "str"
  | .list _ => "list"
  | .tuple _ => "tuple"
  | .dict _ => "dict"
theorem tyX_of {K : Fg} {H : Hp} {v : V} {d : PyData} (h : Dp K H v d) : TyX K H v (.type (tyN d)) := by
  cases h with
  | non => exact .base .non
  | bl b => exact .base (.bl b)
  | int i => exact .base (.int i)
  | str x => exact .base (.str x)
  | lst hs _ =>
    rcases hs with (h | ⟨o, h⟩) | ⟨o, its, n, hk, hc, _⟩
    · exact .base (.lst h)
    · exact .base (.frz h)
    · exact .kList hk hc
  | tup hs _ =>
    rcases hs with (h | ⟨o, h⟩) | ⟨o, its, n, hk, hc, _⟩
    · exact .base (.tup h)
    · exact .fTuple h
    · exact .kTuple hk hc
theorem de_isi {d : PyData} {T : String} {c : Bool} (r : Rl R) (hg : Gl X "isinstance") (hm : X.mg "isinstance" = none) (ha : PE X a (tG R σ H (Hd X.K d))) (hb : PE X b (tG R σ H (Hv (.ty T)))) (hk : kitB (tyN d) T = some c)
    (he : starEach [a, b] X.env = (false, eval a X.env) :: starEach [b] X.env := by rfl) (he2 : starEach [b] X.env = (false, eval b X.env) :: starEach [] X.env := by rfl) (hpl : (backTo pos (starEach [b] X.env)).any (·.1) = false := by rfl) :
    PE X (.Call (.Name "isinstance" p) [a, b] [] pos) (tG R σ H (Hd X.K (.bool c))) :=
  de_cb r call_isi hg hm (by decide +kernel) (da_cons r (mo_d r) ha (da_cons r mo_v hb (da_nil r) he2) he) (fun vs H1 _ q Q k => by
    obtain ⟨v, u, rfl, h1, h2⟩ := all2 q
    cases h2
    exact ⟨v, .ty T, _, _, c, rfl, .ty T, tyX_of h1, kit_ty hk, k _ H1 (r.refl _) (.bl c)⟩) (he := he) (hpl := hpl)
/-- tuple(l), l a list; a tuple is itself -/
theorem de_tupleL {ds : List PyData} (r : Rl R) (hg : Gl X "tuple") (hm : X.mg "tuple" = none) (ha : PE X e (tG R σ H (Hd X.K (.list ds)))) (he : starEach [e] X.env = (false, eval e X.env) :: starEach [] X.env := by rfl) :
    PE X (.Call (.Name "tuple" p) [e] [] pos) (tG R σ H (Hd X.K (.tuple ds))) :=
  de_ct r call_tuple_of hg hm (by decide +kernel) (da_cons r (mo_d r) ha (da_nil r) he) (fun vs H1 _ q Q k => by
    obtain ⟨v, rfl, h⟩ := all1 q
    obtain ⟨a, xs, rfl, h1, h2⟩ := dp_lst h
    exact ⟨a, xs, rfl, .inl ⟨h1, fun l hl => k _ _ (r.ex (Ex.new hl)) (.tup (.inl (.inl upd_same)) (r.dpAll (r.ex (Ex.new hl)) h2))⟩⟩) (he := he)
/-- list(t), list(l) -/
theorem de_listT {ds : List PyData} (r : Rl R) (hg : Gl X "list") (hm : X.mg "list" = none) (ha : PE X e (tG R σ H (Hd X.K (.tuple ds)))) (he : starEach [e] X.env = (false, eval e X.env) :: starEach [] X.env := by rfl) :
    PE X (.Call (.Name "list" p) [e] [] pos) (tG R σ H (Hd X.K (.list ds))) :=
  de_ct r call_list_of hg hm (by decide +kernel) (da_cons r (mo_d r) ha (da_nil r) he) (fun vs H1 _ q Q k => by
    obtain ⟨v, rfl, h⟩ := all1 q
    obtain ⟨a, xs, rfl, h1, h2⟩ := dp_tup h
    exact ⟨a, xs, rfl, .inr h1, fun l hl => k _ _ (r.ex (Ex.new hl)) (.lst (.inl (.inl upd_same)) (r.dpAll (r.ex (Ex.new hl)) h2))⟩) (he := he)
theorem de_listL {ds : List PyData} (r : Rl R) (hg : Gl X "list") (hm : X.mg "list" = none) (ha : PE X e (tG R σ H (Hd X.K (.list ds)))) (he : starEach [e] X.env = (false, eval e X.env) :: starEach [] X.env := by rfl) :
    PE X (.Call (.Name "list" p) [e] [] pos) (tG R σ H (Hd X.K (.list ds))) :=
  de_ct r call_list_of hg hm (by decide +kernel) (da_cons r (mo_d r) ha (da_nil r) he) (fun vs H1 _ q Q k => by
    obtain ⟨v, rfl, h⟩ := all1 q
    obtain ⟨a, xs, rfl, h1, h2⟩ := dp_lst h
    exact ⟨a, xs, rfl, .inl h1, fun l hl => k _ _ (r.ex (Ex.new hl)) (.lst (.inl (.inl upd_same)) (r.dpAll (r.ex (Ex.new hl)) h2))⟩) (he := he)
theorem dpAll_bls {K : Fg} {H : Hp} : ∀ {bs : List Bool} {xs : List V}, DpAll K H xs (bs.map PyData.bool) → xs = bs.map V.bl
  | [], _, h => by cases h; rfl
  | b :: bs, _, h => by
    cases h with
    | cons h1 h2 =>
      cases dp_bl h1
      rw [dpAll_bls h2]; rfl
theorem de_all {bs : List Bool} (r : Rl R) (hc : X.calm = true) (hg : Gl X "all") (hm : X.mg "all" = none) (ha : PE X e (tG R σ H (Hd X.K (.list (bs.map PyData.bool))))) (he : starEach [e] X.env = (false, eval e X.env) :: starEach [] X.env := by rfl) :
    PE X (.Call (.Name "all" p) [e] [] pos) (tG R σ H (Hd X.K (.bool (bs.all id)))) :=
  de_cb r (cr_all hc) hg hm (by decide +kernel) (da_cons r (mo_d r) ha (da_nil r) he) (fun vs H1 _ q Q k => by
    obtain ⟨v, rfl, h⟩ := all1 q
    obtain ⟨a, xs, rfl, h1, h2⟩ := dp_lst h
    cases dpAll_bls h2
    exact ⟨a, bs, rfl, h1, k _ H1 (r.refl _) (.bl _)⟩) (he := he)
/-- int(n) -/
theorem de_int1 {i : Int} (r : Rl R) (hg : Gl X "int") (hm : X.mg "int" = none) (ha : PE X e (tG R σ H (Hd X.K (.int i)))) (he : starEach [e] X.env = (false, eval e X.env) :: starEach [] X.env := by rfl) :
    PE X (.Call (.Name "int" p) [e] [] pos) (tG R σ H (Hd X.K (.int i))) :=
  de_ct r call_int1 hg hm (by decide +kernel) (da_cons r (mo_d r) ha (da_nil r) he) (fun vs H1 _ q Q k => by
    obtain ⟨v, rfl, h⟩ := all1 q
    cases dp_int h
    exact .inl ⟨i, rfl, k _ H1 (r.refl _) (.int _)⟩) (he := he)
theorem de_max2 {i n : Int} (r : Rl R) (hc : X.calm = true) (hg : Gl X "max") (hm : X.mg "max" = none) (ha : PE X a (tG R σ H (Hd X.K (.int i)))) (hb : PE X b (tG R σ H (Hd X.K (.int n))))
    (he : starEach [a, b] X.env = (false, eval a X.env) :: starEach [b] X.env := by rfl) (he2 : starEach [b] X.env = (false, eval b X.env) :: starEach [] X.env := by rfl) (hpl : (backTo pos (starEach [b] X.env)).any (·.1) = false := by rfl) :
    PE X (.Call (.Name "max" p) [a, b] [] pos) (tG R σ H (Hd X.K (.int (max i n)))) :=
  de_cb r (call_max2 hc) hg hm (by decide +kernel) (da_cons r (mo_d r) ha (da_cons r (mo_d r) hb (da_nil r) he2) he) (fun vs H1 _ q Q k => by
    obtain ⟨v, u, rfl, h1, h2⟩ := all2 q
    cases dp_int h1; cases dp_int h2
    have e : (if n > i then n else i) = max i n := by omega
    exact ⟨i, n, rfl, by rw [e]; exact k _ H1 (r.refl _) (.int _)⟩) (he := he) (hpl := hpl)
theorem de_min2 {i n : Int} (r : Rl R) (hc : X.calm = true) (hg : Gl X "min") (hm : X.mg "min" = none) (ha : PE X a (tG R σ H (Hd X.K (.int i)))) (hb : PE X b (tG R σ H (Hd X.K (.int n))))
    (he : starEach [a, b] X.env = (false, eval a X.env) :: starEach [b] X.env := by rfl) (he2 : starEach [b] X.env = (false, eval b X.env) :: starEach [] X.env := by rfl) (hpl : (backTo pos (starEach [b] X.env)).any (·.1) = false := by rfl) :
    PE X (.Call (.Name "min" p) [a, b] [] pos) (tG R σ H (Hd X.K (.int (min i n)))) :=
  de_cb r (call_min2 hc) hg hm (by decide +kernel) (da_cons r (mo_d r) ha (da_cons r (mo_d r) hb (da_nil r) he2) he) (fun vs H1 _ q Q k => by
    obtain ⟨v, u, rfl, h1, h2⟩ := all2 q
    cases dp_int h1; cases dp_int h2
    have e : (if n < i then n else i) = min i n := by omega
    exact ⟨i, n, rfl, by rw [e]; exact k _ H1 (r.refl _) (.int _)⟩) (he := he) (hpl := hpl)
/-! ### comparisons of data -/
theorem shaped_mk {d : PyData} (h : SeqAt.shaped d = true) : SeqAt.shaped d = true := h
/-- a == b, a != b, of any data -/
theorem de_eqD {d d' : PyData} (r : Rl R) (hr : Room j X.A) (ha : PE X a (tG R σ H (Hd X.K d))) (hb : PE X b (tG R σ H (Hd X.K d'))) (sd : SeqAt.shaped d = true) (sd' : SeqAt.shaped d' = true) : PE X (.Compare a [.Eq] [b] pos) (tG R σ H (Hd X.K (.bool (PyData.eqv d d')))) :=
  de_cmp r (op_eqD hr.units) ha (mo_d r) hb (nomark _) fun x y H2 _ p q Q k => ⟨d, d', p, q, sd, sd', k _ H2 (r.refl _) (.bl _)⟩
theorem de_neD {d d' : PyData} (r : Rl R) (hr : Room j X.A) (ha : PE X a (tG R σ H (Hd X.K d))) (hb : PE X b (tG R σ H (Hd X.K d'))) (sd : SeqAt.shaped d = true) (sd' : SeqAt.shaped d' = true) : PE X (.Compare a [.NotEq] [b] pos) (tG R σ H (Hd X.K (.bool (!PyData.eqv d d')))) :=
  de_cmp r (op_neD hr.units) ha (mo_d r) hb (nomark _) fun x y H2 _ p q Q k => ⟨d, d', p, q, sd, sd', k _ H2 (r.refl _) (.bl _)⟩
theorem dt_eqD {d d' : PyData} (r : Rl R) (hr : Room j X.A) (ha : PE X a (tG R σ H (Hd X.K d))) (hb : PE X b (tG R σ H (Hd X.K d'))) (sd : SeqAt.shaped d = true) (sd' : SeqAt.shaped d' = true) : PT X (.Compare a [.Eq] [b] pos) (tT R σ H (PyData.eqv d d')) :=
  dt_cmp r (op_eqD hr.units) ha (mo_d r) hb (nomark _) fun x y H2 _ p q Q k => ⟨d, d', p, q, sd, sd', k H2 (r.refl _)⟩
theorem dt_neD {d d' : PyData} (r : Rl R) (hr : Room j X.A) (ha : PE X a (tG R σ H (Hd X.K d))) (hb : PE X b (tG R σ H (Hd X.K d'))) (sd : SeqAt.shaped d = true) (sd' : SeqAt.shaped d' = true) : PT X (.Compare a [.NotEq] [b] pos) (tT R σ H (!PyData.eqv d d')) :=
  dt_cmp r (op_neD hr.units) ha (mo_d r) hb (nomark _) fun x y H2 _ p q Q k => ⟨d, d', p, q, sd, sd', k H2 (r.refl _)⟩
/-- ints -/
theorem de_cmpI {op : CmpOp} {g : Int → Int → Bool} {m n : Int} (r : Rl R) (o : OpR X (compareOp op) (rI0 fun i j => .bl (g i j))) (ha : PE X a (tG R σ H (Hd X.K (.int m)))) (hb : PE X b (tG R σ H (Hd X.K (.int n)))) (hm : behindInMarks op b = false := by exact nomark _) :
    PE X (.Compare a [op] [b] pos) (tG R σ H (Hd X.K (.bool (g m n)))) :=
  de_cmp r o ha (mo_d r) hb hm fun x y H2 _ p q Q k => ⟨m, n, dp_int p, dp_int q, k _ H2 (r.refl _) (.bl _)⟩
theorem dt_cmpI {op : CmpOp} {g : Int → Int → Bool} {m n : Int} (r : Rl R) (o : OpR X (compareOp op) (rI0 fun i j => .bl (g i j))) (ha : PE X a (tG R σ H (Hd X.K (.int m)))) (hb : PE X b (tG R σ H (Hd X.K (.int n)))) (hm : behindInMarks op b = false := by exact nomark _) :
    PT X (.Compare a [op] [b] pos) (tT R σ H (g m n)) :=
  dt_cmp r o ha (mo_d r) hb hm fun x y H2 _ p q Q k => ⟨m, n, dp_int p, dp_int q, k H2 (r.refl _)⟩
/-- texts < -/
theorem de_ltS {x y : Str} (r : Rl R) (ha : PE X a (tG R σ H (Hd X.K (.str x)))) (hb : PE X b (tG R σ H (Hd X.K (.str y)))) : PE X (.Compare a [.Lt] [b] pos) (tG R σ H (Hd X.K (.bool (decide (x.cps.toList < y.cps.toList))))) :=
  de_cmp r op_lt_str ha (mo_d r) hb (nomark _) fun u v H2 _ p q Q k => ⟨x, y, dp_str p, dp_str q, k _ H2 (r.refl _) (.bl _)⟩
/-- ints and texts == by value -/
theorem de_eqS {x y : Str} (r : Rl R) (ha : PE X a (tG R σ H (Hd X.K (.str x)))) (hb : PE X b (tG R σ H (Hd X.K (.str y)))) : PE X (.Compare a [.Eq] [b] pos) (tG R σ H (Hd X.K (.bool (decide (x = y))))) :=
  de_cmp r op_eq ha (mo_d r) hb (nomark _) fun u v H2 _ p q Q k => by
    cases dp_str p; cases dp_str q
    refine ⟨rfl, k _ H2 (r.refl _) ?_⟩
    have e : decide (V.str x = V.str y) = decide (x = y) := by simp
    rw [e]; exact .bl _
theorem dt_eqS {x y : Str} (r : Rl R) (ha : PE X a (tG R σ H (Hd X.K (.str x)))) (hb : PE X b (tG R σ H (Hd X.K (.str y)))) : PT X (.Compare a [.Eq] [b] pos) (tT R σ H (decide (x = y))) :=
  dt_cmp r op_eq ha (mo_d r) hb (nomark _) fun u v H2 _ p q Q k => by
    cases dp_str p; cases dp_str q
    refine ⟨rfl, ?_⟩
    have e : decide (V.str x = V.str y) = decide (x = y) := by simp
    rw [e]; exact k H2 (r.refl _)
theorem dt_neS {x y : Str} (r : Rl R) (ha : PE X a (tG R σ H (Hd X.K (.str x)))) (hb : PE X b (tG R σ H (Hd X.K (.str y)))) : PT X (.Compare a [.NotEq] [b] pos) (tT R σ H (!decide (x = y))) :=
  dt_cmp r op_ne ha (mo_d r) hb (nomark _) fun u v H2 _ p q Q k => by
    cases dp_str p; cases dp_str q
    refine ⟨rfl, ?_⟩
    have e : decide (V.str x = V.str y) = decide (x = y) := by simp
    rw [e]; exact k H2 (r.refl _)
theorem de_eqI {x y : Int} (r : Rl R) (ha : PE X a (tG R σ H (Hd X.K (.int x)))) (hb : PE X b (tG R σ H (Hd X.K (.int y)))) : PE X (.Compare a [.Eq] [b] pos) (tG R σ H (Hd X.K (.bool (decide (x = y))))) :=
  de_cmp r op_eq ha (mo_d r) hb (nomark _) fun u v H2 _ p q Q k => by
    cases dp_int p; cases dp_int q
    refine ⟨rfl, k _ H2 (r.refl _) ?_⟩
    have e : decide (V.int x = V.int y) = decide (x = y) := by simp
    rw [e]; exact .bl _
theorem de_neI {x y : Int} (r : Rl R) (ha : PE X a (tG R σ H (Hd X.K (.int x)))) (hb : PE X b (tG R σ H (Hd X.K (.int y)))) : PE X (.Compare a [.NotEq] [b] pos) (tG R σ H (Hd X.K (.bool (!decide (x = y))))) :=
  de_cmp r op_ne ha (mo_d r) hb (nomark _) fun u v H2 _ p q Q k => by
    cases dp_int p; cases dp_int q
    refine ⟨rfl, k _ H2 (r.refl _) ?_⟩
    have e : decide (V.int x = V.int y) = decide (x = y) := by simp
    rw [e]; exact .bl _
theorem dt_neI {x y : Int} (r : Rl R) (ha : PE X a (tG R σ H (Hd X.K (.int x)))) (hb : PE X b (tG R σ H (Hd X.K (.int y)))) : PT X (.Compare a [.NotEq] [b] pos) (tT R σ H (!decide (x = y))) :=
  dt_cmp r op_ne ha (mo_d r) hb (nomark _) fun u v H2 _ p q Q k => by
    cases dp_int p; cases dp_int q
    refine ⟨rfl, ?_⟩
    have e : decide (V.int x = V.int y) = decide (x = y) := by simp
    rw [e]; exact k H2 (r.refl _)
theorem de_neB {x y : Bool} (r : Rl R) (ha : PE X a (tG R σ H (Hd X.K (.bool x)))) (hb : PE X b (tG R σ H (Hd X.K (.bool y)))) : PE X (.Compare a [.NotEq] [b] pos) (tG R σ H (Hd X.K (.bool (!decide (x = y))))) :=
  de_cmp r op_ne ha (mo_d r) hb (nomark _) fun u v H2 _ p q Q k => by
    cases dp_bl p; cases dp_bl q
    refine ⟨rfl, k _ H2 (r.refl _) ?_⟩
    have e : decide (V.bl x = V.bl y) = decide (x = y) := by simp
    rw [e]; exact .bl _
theorem dt_neB {x y : Bool} (r : Rl R) (ha : PE X a (tG R σ H (Hd X.K (.bool x)))) (hb : PE X b (tG R σ H (Hd X.K (.bool y)))) : PT X (.Compare a [.NotEq] [b] pos) (tT R σ H (!decide (x = y))) :=
  dt_cmp r op_ne ha (mo_d r) hb (nomark _) fun u v H2 _ p q Q k => by
    cases dp_bl p; cases dp_bl q
    refine ⟨rfl, ?_⟩
    have e : decide (V.bl x = V.bl y) = decide (x = y) := by simp
    rw [e]; exact k H2 (r.refl _)
/-- is None, is not None; any value -/
def isNon : PyData → Bool
  | .none => true
  | _ => false
theorem isNon_of {K : Fg} {H : Hp} {v : V} {d : PyData} (h : Dp K H v d) : decide (v = .non) = isNon d := by
  cases h <;> rfl
theorem de_isN {d : PyData} {j' p'} (r : Rl R) (ha : PE X a (tG R σ H (Hd X.K d))) : PE X (.Compare a [.Is] [.Constant .none j' p'] pos) (tG R σ H (Hd X.K (.bool (isNon d)))) :=
  de_cmp r op_isN ha (mo_d r) (de_non r) (nomark _) fun x y H2 _ p q Q k => ⟨dp_non q, by rw [isNon_of p]; exact k _ H2 (r.refl _) (.bl _)⟩
theorem de_notN {d : PyData} {j' p'} (r : Rl R) (ha : PE X a (tG R σ H (Hd X.K d))) : PE X (.Compare a [.IsNot] [.Constant .none j' p'] pos) (tG R σ H (Hd X.K (.bool (!isNon d)))) :=
  de_cmp r op_notN ha (mo_d r) (de_non r) (nomark _) fun x y H2 _ p q Q k => ⟨dp_non q, by rw [isNon_of p]; exact k _ H2 (r.refl _) (.bl _)⟩
theorem dt_isN {d : PyData} {j' p'} (r : Rl R) (ha : PE X a (tG R σ H (Hd X.K d))) : PT X (.Compare a [.Is] [.Constant .none j' p'] pos) (tT R σ H (isNon d)) :=
  dt_cmp r op_isN ha (mo_d r) (de_non r) (nomark _) fun x y H2 _ p q Q k => ⟨dp_non q, by rw [isNon_of p]; exact k H2 (r.refl _)⟩
theorem dt_notN {d : PyData} {j' p'} (r : Rl R) (ha : PE X a (tG R σ H (Hd X.K d))) : PT X (.Compare a [.IsNot] [.Constant .none j' p'] pos) (tT R σ H (!isNon d)) :=
  dt_cmp r op_notN ha (mo_d r) (de_non r) (nomark _) fun x y H2 _ p q Q k => ⟨dp_non q, by rw [isNon_of p]; exact k H2 (r.refl _)⟩
/-! arithmetic -/
theorem de_opI0 {op : Operator} {g : Int → Int → Int} {m n : Int} (r : Rl R) (o : OpR X (binaryOp op) (rI0 fun i j => .int (g i j))) (ha : PE X a (tG R σ H (Hd X.K (.int m)))) (hb : PE X b (tG R σ H (Hd X.K (.int n)))) : PE X (.BinOp a op b pos) (tG R σ H (Hd X.K (.int (g m n)))) :=
  de_op r o ha (mo_d r) hb fun x y H2 _ p q Q k => ⟨m, n, dp_int p, dp_int q, k _ H2 (r.refl _) (.int _)⟩
theorem de_opI {op : Operator} {C : Int → Int → Prop} {g : Int → Int → Int} {m n : Int} (r : Rl R) (o : OpR X (binaryOp op) (rI C fun i j => .int (g i j))) (ha : PE X a (tG R σ H (Hd X.K (.int m)))) (hb : PE X b (tG R σ H (Hd X.K (.int n)))) (c : C m n) : PE X (.BinOp a op b pos) (tG R σ H (Hd X.K (.int (g m n)))) :=
  de_op r o ha (mo_d r) hb fun x y H2 _ p q Q k => ⟨m, n, dp_int p, dp_int q, c, k _ H2 (r.refl _) (.int _)⟩
end
end Lf
set_option maxHeartbeats 2000000
/-! Lay3: statements, sources, loops, comprehensions, a def's promise by its body. -/
namespace Lf
open PySem PySem.Spec L2
open PyProof.Rows hiding St

section
variable {X : Cx} {R : Rel} {σ : St} {H : Hp} {D : Ends} {e a b : Expr} {es : List Expr} {rest body : List Stmt} {st : Stmt} {p pos : Pos} {φ ψ χ : Pv}
theorem bs_seq {t : TS} (h : PS X st t) (i : t { D with nx := fun σ' H' => PSs X rest (tAt σ' H' D) } σ H) : PSs X (st :: rest) (tAt σ H D) := by
  refine ⟨fun pins s σ0 H0 D0 I q => ?_⟩
  obtain ⟨rfl, rfl, rfl⟩ := q
  refine wpAny_execs_cons (thn (h.run pins s _ _ _ I i) fun f s1 q => ?_)
  cases f with
  | next =>
    obtain ⟨σ', H', I', q⟩ := q
    exact q.run pins s1 σ' H' _ I' ⟨rfl, rfl, rfl⟩
  | ret v => exact q
  | brk => exact q
  | cont => exact q
theorem bs_nil (h : D.nx σ H) : PSs X [] (tAt σ H D) := PSs.imp pss_nil fun _ _ _ ⟨e1, e2, e3⟩ => by rw [e1, e2, e3]; exact h
theorem PSs.self : PSs X body (fun D σ H => PSs X body (tAt σ H D)) := ⟨fun pins s σ H D I h => h.run pins s σ H D I ⟨rfl, rfl, rfl⟩⟩
def tQ (σ0 : St) (H0 : Hp) (Q0 : VK) : TE := fun σ H Q => σ = σ0 ∧ H = H0 ∧ Q = Q0
def tTQ (σ0 : St) (H0 : Hp) (Q0 : Bool → Hp → Prop) : TT := fun σ H Q => σ = σ0 ∧ H = H0 ∧ Q = Q0
theorem de_q (h : PE X e (tG R σ H φ)) {H1 : Hp} (h1 : R H H1) {Q : VK} (k : ∀ v H2, R H1 H2 → φ v H2 → Q v H2) : PE X e (tQ σ H1 Q) :=
  PE.imp h fun _ _ _ ⟨e1, e2, e3⟩ => by rw [e1, e2, e3]; exact ⟨rfl, h1, k⟩
theorem bs_ret (h : PE X e (tG R σ H φ)) (r : Rl R) (k : ∀ v H', R H H' → φ v H' → D.rt v H') : PSs X (.Return (some e) pos :: rest) (tAt σ H D) :=
  bs_seq (ps_ret h) ⟨rfl, r.refl _, k⟩
theorem bs_set {i : Nat} {x : Str} {p' : Pos} (r : Rl R) (hN : X.N.Nodup) (hi : X.N[i]? = some x) (hx : Loc X.env.scope x) (h : PE X e (tG R σ H φ)) (k : ∀ v H', R H H' → φ v H' → PSs X rest (tAt (σ.set i (some v)) H' D))
    (hs : swapsWith e (some (.Name x p')) pos.line X.env = pure false := by rfl) (hf : X.fn x = true ∨ X.env.scope.names.lookup x = some .local := by first | exact .inl rfl | exact .inr rfl) : PSs X (.Assign [.Name x p'] e pos :: rest) (tAt σ H D) :=
  bs_seq (ps_set (i := i) hN hi hx h hs hf) ⟨rfl, r.refl _, k⟩
theorem bs_expr (r : Rl R) (h : PE X e (tG R σ H φ)) (k : ∀ v H', R H H' → φ v H' → PSs X rest (tAt σ H' D)) (hs : swapsWith e none pos.line X.env = pure false := by rfl) : PSs X (.Expr e pos :: rest) (tAt σ H D) :=
  bs_seq (ps_expr h hs) ⟨rfl, r.refl _, k⟩
theorem PSs.lift {t : TS} {Bp : Prop} (h : Bp → PSs X body t) : PSs X body (fun D σ H => Bp ∧ t D σ H) := ⟨fun pins s σ H D I q => (h q.1).run pins s σ H D I q.2⟩
theorem bs_if {c : Expr} {t : Bool} {A B : List Stmt} (r : Rl R) (hc : PT X c (tT R σ H t)) (ha : t = true → ∀ H', R H H' → PSs X A (tAt σ H' { D with nx := fun σ' H'' => PSs X rest (tAt σ' H'' D) }))
    (hb : t = false → ∀ H', R H H' → PSs X B (tAt σ H' { D with nx := fun σ' H'' => PSs X rest (tAt σ' H'' D) })) : PSs X (.If c A B pos :: rest) (tAt σ H D) :=
  bs_seq (ps_if hc PSs.self PSs.self) ⟨rfl, r.refl _, fun H' h' => by
    cases t with
    | true => exact ha rfl H' h'
    | false => exact hb rfl H' h'⟩
/-- if without else -/
theorem bs_when {c : Expr} {t : Bool} {A : List Stmt} (r : Rl R) (hc : PT X c (tT R σ H t)) (ha : t = true → ∀ H', R H H' → PSs X A (tAt σ H' { D with nx := fun σ' H'' => PSs X rest (tAt σ' H'' D) }))
    (hb : t = false → ∀ H', R H H' → PSs X rest (tAt σ H' D)) : PSs X (.If c A [] pos :: rest) (tAt σ H D) :=
  bs_if r hc ha fun t H' h' => bs_nil (hb t H' h')
/-- target = e, the target of any form -/
theorem bs_asg {tg : Expr} {g : TG} (r : Rl R) (hg : PG X tg g) (h : PE X e (tG R σ H φ)) (k : ∀ v H', R H H' → φ v H' → g v σ H' fun σ2 H2 => PSs X rest (tAt σ2 H2 D))
    (hs : swapsWithSole [tg] e pos.line X.env = pure false := by rfl) (hw : swappedStores [tg] e X.env = pure none := by rfl) (h1 : (assignEach [tg] X.env).map (·.2) = [assign tg X.env] := by rfl) : PSs X (.Assign [tg] e pos :: rest) (tAt σ H D) :=
  bs_seq (ps_asg h hg hs hw h1) ⟨rfl, r.refl _, k⟩
/-- x, y = e1, e2 -/
theorem bs_par {i j : Nat} {x y : Str} {px py pt : Pos} {kt k2 pt2} (r : Rl R) (hc : X.calm = true) (hN : X.N.Nodup) (hi : X.N[i]? = some x) (hj : X.N[j]? = some y) (hij : i ≠ j) (hx : X.env.scope.names.lookup x = some .local) (hy : X.env.scope.names.lookup y = some .local)
    (ha : PA X [a, b] (tA R σ H [φ, ψ])) (k : ∀ v u H', R H H' → φ v H' → ψ u H' → PSs X rest (tAt ((σ.set i (some v)).set j (some u)) H' D))
    (hw : swappedStores [.Tuple [.Name x px, .Name y py] kt pt] (.Tuple [a, b] k2 pt2) X.env = pure (some [x, y]) := by rfl) (hs : swapsWithSole [.Tuple [.Name x px, .Name y py] kt pt] (.Tuple [a, b] k2 pt2) pos.line X.env = pure false := by rfl) :
    PSs X (.Assign [.Tuple [.Name x px, .Name y py] kt pt] (.Tuple [a, b] k2 pt2) pos :: rest) (tAt σ H D) :=
  bs_seq (ps_par hc hN hi hj hij hx hy ha hw hs) ⟨rfl, r.refl _, fun vs H' h' q => by
    obtain ⟨v, u, rfl, h1, h2⟩ := all2 q
    exact ⟨v, u, rfl, k v u H' h' h1 h2⟩⟩

/-! ### sources: what a for or a comprehension walks, as data -/
/-- the source gives src, item by item; what an item's value is, is told by ι -/
structure Src (X : Cx) (R : Rel) (σ : St) (H : Hp) (tg iter : Expr) {α : Type} (src : List α) (ι : α → Pv) : Prop where
  ex : ∃ wi : TI, PI X tg iter wi ∧ ∀ H1, R H H1 → ∀ Rr : It → Hp → Prop, (∀ (J : It) (H2 : Hp) (G : Hp → Prop) (Y : Nat → Hp → V → Hp → Prop), R H1 H2 → Walk J src.length G Y → G H2 → (∀ H3 H4, R H3 H4 → G H3 → G H4) →
      (∀ i H3 x H4, R H2 H3 → G H3 → Y i H3 x H4 → Ex H3 H4 ∧ ∃ s, src[i]? = some s ∧ ι s x H4) → Rr J H2) → wi σ H1 Rr
theorem src_tup {α : Type} {src : List α} {f : α → PyData} {tg : Expr} (r : Rl R) (h : PE X e (tG R σ H (Hd X.K (.tuple (src.map f))))) : Src X R σ H tg e src (fun s => Hd X.K (f s)) :=
  ⟨_, pi_tup h, fun H1 h1 Rr k => ⟨rfl, h1, fun v H2 h2 p => by
    obtain ⟨a, xs, rfl, hs, hd⟩ := dp_tup p
    have hl : xs.length = src.length := by rw [DpAll.length hd, List.length_map]
    refine ⟨a, rfl, ⟨xs, hs⟩, k _ H2 _ _ h2 (by rw [← hl]; exact walk_tup) hs (fun _ _ x g => r.sqT x g) fun i H3 x H4 h3 _ y => ?_⟩
    obtain ⟨rfl, hx⟩ := y
    obtain ⟨d, e1, e2⟩ := DpAll.getV (r.dpAll h3 hd) hx
    rw [List.getElem?_map] at e1
    cases q : src[i]? with
    | none => rw [q] at e1; cases e1
    | some s =>
      rw [q] at e1
      cases e1
      exact ⟨Ex.rfl' _, s, rfl, e2⟩⟩⟩
theorem src_lst {α : Type} {src : List α} {f : α → PyData} {tg : Expr} (r : Rl R) (h : PE X e (tG R σ H (Hd X.K (.list (src.map f))))) : Src X R σ H tg e src (fun s => Hd X.K (f s)) :=
  ⟨_, pi_list h, fun H1 h1 Rr k => ⟨rfl, h1, fun v H2 h2 p => by
    obtain ⟨a, xs, rfl, hs, hd⟩ := dp_lst p
    have hl : xs.length = src.length := by rw [DpAll.length hd, List.length_map]
    refine ⟨a, rfl, ⟨xs, hs⟩, k _ H2 _ _ h2 (by rw [← hl]; exact walk_list) hs (fun _ _ x g => r.sqL x g) fun i H3 x H4 h3 _ y => ?_⟩
    obtain ⟨rfl, hx⟩ := y
    obtain ⟨d, e1, e2⟩ := DpAll.getV (r.dpAll h3 hd) hx
    rw [List.getElem?_map] at e1
    cases q : src[i]? with
    | none => rw [q] at e1; cases e1
    | some s =>
      rw [q] at e1
      cases e1
      exact ⟨Ex.rfl' _, s, rfl, e2⟩⟩⟩
/-- a text, sign by sign -/
theorem src_str {x : Str} {tg : Expr} (r : Rl R) (h : PE X e (tG R σ H (Hd X.K (.str x)))) : Src X R σ H tg e x.cps.toList (fun c => Hd X.K (.str ⟨#[c]⟩)) :=
  ⟨_, pi_str h, fun H1 h1 Rr k => ⟨rfl, h1, fun v H2 h2 p => by
    cases dp_str p
    refine ⟨x, rfl, k _ H2 (fun _ => True) (fun i H v H' => H' = H ∧ ∃ c, x.cps[i]? = some c ∧ v = .str ⟨#[c]⟩) h2 (by rw [Array.length_toList]; exact walk_str) True.intro (fun _ _ _ _ => True.intro) fun i H3 y H4 h3 _ z => ?_⟩
    obtain ⟨rfl, c, hc, rfl⟩ := z
    exact ⟨Ex.rfl' _, c, by simpa using hc, .str _⟩⟩⟩
/-- for over a source, nothing that stood ahead of it is changed -/
theorem bs_for {α : Type} {src : List α} {ι : α → Pv} {tg iter : Expr} {g : TG} (r : Rl R) (hp : PassesOwn (model X.prog X.w) X.A X.env X.xe) (hc : X.calm = true) (S : Src X R σ H tg iter src ι) (hg : PG X tg g) (Iv : Hp → Nat → St → Hp → Prop)
    (h0 : ∀ H2, R H H2 → Iv H2 0 σ H2) (hR : ∀ H2 i σ' H', R H H2 → i ≤ src.length → Iv H2 i σ' H' → R H2 H')
    (hs : ∀ H2 i s x σ' H' H'', R H H2 → src[i]? = some s → Iv H2 i σ' H' → Ex H' H'' → ι s x H'' → g x σ' H'' fun σ2 H3 => PSs X body (tAt σ2 H3 { D with nx := Iv H2 (i + 1), ct := Iv H2 (i + 1), bk := fun σ' H' => PSs X rest (tAt σ' H' D) }))
    (hd : ∀ H2 σ' H', R H H2 → Iv H2 src.length σ' H' → PSs X rest (tAt σ' H' D)) (hf : ∀ x, foldedSetIterable iter X.env x = pure x := by intro _; rfl) : PSs X (.For tg iter body [] pos :: rest) (tAt σ H D) := by
  obtain ⟨wi, hi, q⟩ := S.ex
  refine bs_seq (ps_for hp hc hi hg PSs.self hf) ?_
  refine q H (r.refl _) _ fun J H2 G Y h2 W g2 gm it => ?_
  refine for_it (g := g) (tb := fun D σ H => PSs X body (tAt σ H D)) (D := { D with nx := fun σ' H' => PSs X rest (tAt σ' H' D) }) (n := src.length) (G := fun H' => G H' ∧ R H2 H') (Y := Y) (W.mono (fun _ x => x.1) fun _ _ _ _ _ _ y => y) (fun i σ' H' => Iv H2 i σ' H') (h0 H2 h2)
    (fun i σ' H' hi x => ⟨gm _ _ (hR H2 i σ' H' h2 hi x) g2, hR H2 i σ' H' h2 hi x⟩) (fun i x σ' H' H'' hi iv y => ?_) fun σ' H' x => hd H2 σ' H' h2 x
  have hr := hR H2 i σ' H' h2 (Nat.le_of_lt hi) iv
  obtain ⟨ex, s, hs', is⟩ := it i H' x H'' hr (gm _ _ hr g2) y
  exact hs H2 i s x σ' H' H'' h2 hs' iv ex is
/-- for over a tuple that stays -/
theorem bs_forT {ds : List PyData} {tg iter : Expr} {g : TG} (r : Rl R) (hp : PassesOwn (model X.prog X.w) X.A X.env X.xe) (hc : X.calm = true) (h : PE X iter (tG R σ H (Hd X.K (.tuple ds)))) (hg : PG X tg g) (Iv : List V → Hp → Nat → St → Hp → Prop)
    (h0 : ∀ a xs H2, R H H2 → SqT X.K H2 a xs → DpAll X.K H2 xs ds → Iv xs H2 0 σ H2) (hl : ∀ a xs H2 i σ' H', SqT X.K H2 a xs → i ≤ xs.length → Iv xs H2 i σ' H' → SqT X.K H' a xs)
    (hs : ∀ a xs H2 i x σ' H', R H H2 → SqT X.K H2 a xs → DpAll X.K H2 xs ds → xs[i]? = some x → Iv xs H2 i σ' H' → g x σ' H' fun σ2 H3 => PSs X body (tAt σ2 H3 { D with nx := Iv xs H2 (i + 1), ct := Iv xs H2 (i + 1), bk := fun σ' H' => PSs X rest (tAt σ' H' D) }))
    (hd : ∀ a xs H2 σ' H', R H H2 → SqT X.K H2 a xs → DpAll X.K H2 xs ds → Iv xs H2 ds.length σ' H' → PSs X rest (tAt σ' H' D)) (hf : ∀ x, foldedSetIterable iter X.env x = pure x := by intro _; rfl) : PSs X (.For tg iter body [] pos :: rest) (tAt σ H D) := by
  refine bs_seq (ps_for hp hc (pi_tup h) hg PSs.self hf) ⟨rfl, r.refl _, fun v H2 h2 q => ?_⟩
  obtain ⟨a, xs, rfl, hq, hd'⟩ := dp_tup q
  exact ⟨a, rfl, ⟨xs, hq⟩, for_tup (g := g) (tb := fun D σ H => PSs X body (tAt σ H D)) (D := { D with nx := fun σ' H' => PSs X rest (tAt σ' H' D) }) (Iv xs H2) (h0 a xs H2 h2 hq hd') (fun i σ' H' hi iv => hl a xs H2 i σ' H' hq hi iv) (fun i x σ' H' hx iv => hs a xs H2 i x σ' H' h2 hq hd' hx iv) fun σ' H' iv => hd a xs H2 σ' H' h2 hq hd' (by rw [← DpAll.length hd']; exact iv)⟩
/-- for over a list that stays -/
theorem bs_forL {ds : List PyData} {tg iter : Expr} {g : TG} (r : Rl R) (hp : PassesOwn (model X.prog X.w) X.A X.env X.xe) (hc : X.calm = true) (h : PE X iter (tG R σ H (Hd X.K (.list ds)))) (hg : PG X tg g) (Iv : Addr → List V → Hp → Nat → St → Hp → Prop)
    (h0 : ∀ a xs H2, R H H2 → SqL X.K H2 a xs → DpAll X.K H2 xs ds → Iv a xs H2 0 σ H2) (hl : ∀ a xs H2 i σ' H', SqL X.K H2 a xs → i ≤ xs.length → Iv a xs H2 i σ' H' → SqL X.K H' a xs)
    (hs : ∀ a xs H2 i x σ' H', R H H2 → SqL X.K H2 a xs → DpAll X.K H2 xs ds → xs[i]? = some x → Iv a xs H2 i σ' H' → g x σ' H' fun σ2 H3 => PSs X body (tAt σ2 H3 { D with nx := Iv a xs H2 (i + 1), ct := Iv a xs H2 (i + 1), bk := fun σ' H' => PSs X rest (tAt σ' H' D) }))
    (hd : ∀ a xs H2 σ' H', R H H2 → SqL X.K H2 a xs → DpAll X.K H2 xs ds → Iv a xs H2 ds.length σ' H' → PSs X rest (tAt σ' H' D)) (hf : ∀ x, foldedSetIterable iter X.env x = pure x := by intro _; rfl) : PSs X (.For tg iter body [] pos :: rest) (tAt σ H D) := by
  refine bs_seq (ps_for hp hc (pi_list h) hg PSs.self hf) ⟨rfl, r.refl _, fun v H2 h2 q => ?_⟩
  obtain ⟨a, xs, rfl, hq, hd'⟩ := dp_lst q
  exact ⟨a, rfl, ⟨xs, hq⟩, for_list (g := g) (tb := fun D σ H => PSs X body (tAt σ H D)) (D := { D with nx := fun σ' H' => PSs X rest (tAt σ' H' D) }) (Iv a xs H2) (h0 a xs H2 h2 hq hd') (fun i σ' H' hi iv => hl a xs H2 i σ' H' hq hi iv) (fun i x σ' H' hx iv => hs a xs H2 i x σ' H' h2 hq hd' hx iv) fun σ' H' iv => hd a xs H2 σ' H' h2 hq hd' (by rw [← DpAll.length hd']; exact iv)⟩
/-! ### targets: one name, a tuple of names -/
theorem g1 {i : Nat} {v : V} {Q : St → Hp → Prop} (k : Q (σ.set i (some v)) H) : gName i v σ H Q := k
theorem g2 {K : Fg} {i j : Nat} {v : V} {d1 d2 : PyData} {Q : St → Hp → Prop} (h : Dp K H v (.tuple [d1, d2])) (k : ∀ v1 v2, Dp K H v1 d1 → Dp K H v2 d2 → Q ((σ.set i (some v1)).set j (some v2)) H) : gTup K 2 (gCons (gName i) (gCons (gName j) gNil)) v σ H Q := by
  obtain ⟨a, xs, rfl, hq, hd⟩ := dp_tup h
  cases hd with
  | cons h1 t =>
    cases t with
    | cons h2 t =>
      cases t
      exact ⟨a, _, rfl, hq, rfl, _, _, rfl, _, _, rfl, rfl, k _ _ h1 h2⟩
theorem g3 {K : Fg} {i j l : Nat} {v : V} {d1 d2 d3 : PyData} {Q : St → Hp → Prop} (h : Dp K H v (.tuple [d1, d2, d3])) (k : ∀ v1 v2 v3, Dp K H v1 d1 → Dp K H v2 d2 → Dp K H v3 d3 → Q (((σ.set i (some v1)).set j (some v2)).set l (some v3)) H) :
    gTup K 3 (gCons (gName i) (gCons (gName j) (gCons (gName l) gNil))) v σ H Q := by
  obtain ⟨a, xs, rfl, hq, hd⟩ := dp_tup h
  cases hd with
  | cons h1 t =>
    cases t with
    | cons h2 t =>
      cases t with
      | cons h3 t =>
        cases t
        exact ⟨a, _, rfl, hq, rfl, _, _, rfl, _, _, rfl, _, _, rfl, rfl, k _ _ _ h1 h2 h3⟩
/-- a pair of V's whose parts are of any kind -/
theorem g2v {K : Fg} {t u : TG} {a : Addr} {x y : V} {Q : St → Hp → Prop} (h : SqT K H a [x, y]) (k : t x σ H fun σ2 H2 => u y σ2 H2 Q) : gTup K 2 (gCons t (gCons u gNil)) (.ref a) σ H Q :=
  ⟨a, _, rfl, h, rfl, _, _, rfl, by
    show t x σ H fun σ' H' => ∃ v r, [y] = v :: r ∧ u v σ' H' fun σ' H' => r = [] ∧ Q σ' H'
    have e : (fun (σ' : St) (H' : Hp) => ∃ v r, [y] = v :: r ∧ u v σ' H' fun σ' H' => r = [] ∧ Q σ' H') = fun σ' H' => u y σ' H' fun σ' H' => Q σ' H' := by
      funext σ' H'
      refine propext ⟨fun ⟨v, r, e1, q⟩ => ?_, fun q => ⟨y, [], rfl, ?_⟩⟩
      · cases e1
        have e2 : (fun (σ' : St) (H' : Hp) => ([] : List V) = [] ∧ Q σ' H') = fun σ' H' => Q σ' H' := by
          funext σ' H'; simp
        rw [e2] at q; exact q
      · have e2 : (fun (σ' : St) (H' : Hp) => ([] : List V) = [] ∧ Q σ' H') = fun σ' H' => Q σ' H' := by
          funext σ' H'; simp
        rw [e2]; exact q
    rw [e]; exact k⟩
/-! ### comprehensions -/
theorem PE.selfB {elt : Expr} {scope : Scope} (s : Shared) (H0 : Hp) (C : Addr) (cl : List (Str × Addr)) (fp : List Addr) :
    PE (X.blk s H0 scope (compEnvC scope cl C X.env) fp) elt (fun σ H Q => ∀ s H0 C cl fp, PE (X.blk s H0 scope (compEnvC scope cl C X.env) fp) elt (tQ σ H Q)) := ⟨fun pins s' σ H Q I h => (h s H0 C cl fp).run pins s' σ H Q I ⟨rfl, rfl, rfl⟩⟩
theorem PTs.selfB {ifs : List Expr} {scope : Scope} (s : Shared) (H0 : Hp) (C : Addr) (cl : List (Str × Addr)) (fp : List Addr) :
    PTs (X.blk s H0 scope (compEnvC scope cl C X.env) fp) ifs (fun σ H Q => ∀ s H0 C cl fp, PTs (X.blk s H0 scope (compEnvC scope cl C X.env) fp) ifs (tTQ σ H Q)) := ⟨fun pins s' σ H Q I h => (h s H0 C cl fp).run pins s' σ H Q I ⟨rfl, rfl, rfl⟩⟩
theorem PTs.imp {ifs : List Expr} {t t' : TT} (h : PTs X ifs t) (i : ∀ σ H Q, t' σ H Q → t σ H Q) : PTs X ifs t' := ⟨fun pins s σ H Q I q => h.run pins s σ H Q I (i σ H Q q)⟩
theorem dts_nil {c : Bool} (r : Rl R) (e : c = true) : PTs X [] (tT R σ H c) := PTs.imp pts_nil fun _ H' _ ⟨_, _, k⟩ => by rw [e] at k; exact k H' (r.refl _)
theorem dts_one {c : Expr} {t : Bool} (h : PT X c (tT R σ H t)) : PTs X [c] (tT R σ H t) := pts_one h
/-- the block of a comprehension, whatever it is -/
abbrev Blk (X : Cx) (scope : Scope) (F : Cx → Prop) : Prop := ∀ (s : Shared) (H0 : Hp) (C : Addr) (cl : List (Str × Addr)) (fp : List Addr), F (X.blk s H0 scope (compEnvC scope cl C X.env) fp)
/-- a target passes on what is wanted -/
def GMo (g : TG) : Prop := ∀ x σ1 H1 (Q Q' : St → Hp → Prop), (∀ σ2 H2, Q σ2 H2 → Q' σ2 H2) → g x σ1 H1 Q → g x σ1 H1 Q'
def GsMo (g : TGs) : Prop := ∀ x σ1 H1 (Q Q' : St → Hp → Prop), (∀ σ2 H2, Q σ2 H2 → Q' σ2 H2) → g x σ1 H1 Q → g x σ1 H1 Q'
theorem gm_name {i : Nat} : GMo (gName i) := fun _ _ _ _ _ k q => k _ _ q
theorem gm_nil : GsMo gNil := fun _ _ _ _ _ k ⟨e, q⟩ => ⟨e, k _ _ q⟩
theorem gm_cons {t : TG} {u : TGs} (h : GMo t) (h' : GsMo u) : GsMo (gCons t u) := fun _ _ _ _ _ k ⟨v, r, e, q⟩ => ⟨v, r, e, h _ _ _ _ _ (fun _ _ z => h' _ _ _ _ _ k z) q⟩
theorem gm_tup {K : Fg} {n : Nat} {t : TGs} (h : GsMo t) : GMo (gTup K n t) := fun _ _ _ _ _ k ⟨a, xs, e, q, l, z⟩ => ⟨a, xs, e, q, l, h _ _ _ _ _ k z⟩
theorem gm_2 {K : Fg} {i j : Nat} : GMo (gTup K 2 (gCons (gName i) (gCons (gName j) gNil))) := gm_tup (gm_cons gm_name (gm_cons gm_name gm_nil))
theorem gm_3 {K : Fg} {i j l : Nat} : GMo (gTup K 3 (gCons (gName i) (gCons (gName j) (gCons (gName l) gNil)))) := gm_tup (gm_cons gm_name (gm_cons gm_name (gm_cons gm_name gm_nil)))
/-- what is asked of one turn -/
def LcTurn (X : Cx) (R : Rel) (H : Hp) (σ : St) {α : Type} (src : List α) (ι : α → Pv) (bo : α → Bool) (eo : α → PyData) (elt : Expr) (ifs : List Expr) (scope : Scope) (vs : List Nat) (g : TG) : Prop :=
  ∀ s x H', s ∈ src → R H H' → ι s x H' → g x (wipe σ vs) H' fun σ2 H2 => wipe σ2 vs = wipe σ vs ∧ R H' H2 ∧ (Blk X scope fun Y => PTs Y ifs (tT R σ2 H2 (bo s))) ∧ (bo s = true → ∀ H3, R H2 H3 → Blk X scope fun Y => PE Y elt (tG R σ2 H3 (Hd X.K (eo s))))
/-- a list that no one else holds -/
def OL (K : Fg) (ds : List PyData) : Pv := fun v H => ∃ l xs, v = .ref l ∧ H l = some (.lst xs) ∧ DpAll K H xs ds
theorem ol_dp {K : Fg} {ds : List PyData} {v : V} {H : Hp} (h : OL K ds v H) : Dp K H v (.list ds) := by
  obtain ⟨l, xs, rfl, h, q⟩ := h
  exact .lst (.inl (.inl h)) q
theorem mo_ol {R : Rel} (r : Rl R) {K : Fg} {ds : List PyData} : Mo R (OL K ds) := fun _ _ _ x ⟨l, xs, e, h, q⟩ => ⟨l, xs, e, r.keep x h ⟨(fun _ z => by cases z), fun _ z => by cases z⟩, r.dpAll x q⟩
/-- the loop of a list comprehension over a source -/
theorem lc_go {α : Type} {src : List α} {ι : α → Pv} {bo : α → Bool} {eo : α → PyData} {elt : Expr} {ifs : List Expr} {scope : Scope} {vs : List Nat} {g : TG} {H1 : Hp} {Q : VK} {wi : TI} (r : Rl R)
    (q : ∀ H1, R H H1 → ∀ Rr : It → Hp → Prop, (∀ (J : It) (H2 : Hp) (G : Hp → Prop) (Y : Nat → Hp → V → Hp → Prop), R H1 H2 → Walk J src.length G Y → G H2 → (∀ H3 H4, R H3 H4 → G H3 → G H4) →
      (∀ i H3 x H4, R H2 H3 → G H3 → Y i H3 x H4 → Ex H3 H4 ∧ ∃ s, src[i]? = some s ∧ ι s x H4) → Rr J H2) → wi σ H1 Rr) (hz : src.length < sizeLine) (hn : ∀ s ∈ src, nol (eo s) = true)
    (hs : LcTurn X R H σ src ι bo eo elt ifs scope vs g) (gm : GMo g) (h1 : R H H1) (k : ∀ v H2, R H1 H2 → OL X.K ((src.filter bo).map eo) v H2 → Q v H2) :
    tLc wi g (fun σ H Q => ∀ s H0 C cl fp, PTs (X.blk s H0 scope (compEnvC scope cl C X.env) fp) ifs (tTQ σ H Q)) (fun σ H Q => ∀ s H0 C cl fp, PE (X.blk s H0 scope (compEnvC scope cl C X.env) fp) elt (tQ σ H Q)) vs σ H1 Q := by
  refine q H1 h1 _ fun J H2 G Y h2 W g2 gmo it => fun Dl hD => ?_
  have hlen : ∀ i, (((src.take i).filter bo).map eo).length ≤ src.length := fun i => by
    rw [List.length_map]
    exact Nat.le_trans (List.length_filter_le _ _) (by rw [List.length_take]; exact Nat.min_le_right _ _)
  refine lc_it (n := src.length) (g := g) (tt := fun σ H Q => ∀ s H0 C cl fp, PTs (X.blk s H0 scope (compEnvC scope cl C X.env) fp) ifs (tTQ σ H Q)) (te := fun σ H Q => ∀ s H0 C cl fp, PE (X.blk s H0 scope (compEnvC scope cl C X.env) fp) elt (tQ σ H Q)) (vs := vs) (σ := σ) (G := G) (Y := Y) W (fun i H' => ∃ acc, H' Dl = some (.lst acc) ∧ R H2 H' ∧ DpAll X.K H' acc (((src.take i).filter bo).map eo)) ⟨[], upd_same, r.ex (Ex.new hD), .nil⟩ (fun i H' _ ⟨_, _, x, _⟩ => gmo _ _ x g2) (fun i x H3 H4 hi ⟨acc, ha, hr, hd⟩ y => ?_) fun H' ⟨acc, ha, hr, hd⟩ => k _ H' (r.trans h2 hr) ⟨Dl, acc, rfl, ha, by rw [List.take_length] at hd; exact hd⟩
  obtain ⟨ex, s, hs', is⟩ := it i H3 x H4 hr (gmo _ _ hr g2) y
  have hm : s ∈ src := List.mem_of_getElem? hs'
  have r4 : R H2 H4 := r.trans hr (r.ex ex)
  refine gm _ _ _ _ _ (fun σ2 H5 z => ?_) (hs s x H4 hm (r.trans (r.trans h1 h2) r4) is)
  obtain ⟨w1, r5, pt, pe⟩ := z
  refine ⟨w1, fun s0 H0 C cl fp => PTs.imp (pt s0 H0 C cl fp) fun σ' H' Q' ⟨e1, e2, e3⟩ => ?_⟩
  subst e1 e2 e3
  refine ⟨rfl, r.refl _, fun H6 r6 => ?_⟩
  have htake : src.take (i + 1) = src.take i ++ [s] := by
    rw [List.take_succ, hs']; rfl
  have d6 : H6 Dl = some (.lst acc) := r.keep (r.trans r5 r6) (ex _ _ ha) ⟨(fun _ z => by cases z), fun _ z => by cases z⟩
  have a6 : DpAll X.K H6 acc (((src.take i).filter bo).map eo) := r.dpAll (r.trans (r.trans (r.ex ex) r5) r6) hd
  cases hb : bo s with
  | false =>
    show ∃ acc, _
    refine ⟨acc, d6, r.trans (r.trans r4 r5) r6, ?_⟩
    rw [htake, List.filter_append, List.filter_cons, hb]
    simpa using a6
  | true =>
    refine fun s0 H0 C cl fp => PE.imp (pe hb H6 r6 s0 H0 C cl fp) fun σ' H' Q' ⟨e1, e2, e3⟩ => ?_
    subst e1 e2 e3
    refine ⟨rfl, r.refl _, fun v H7 r7 p => ?_⟩
    have d7 : H7 Dl = some (.lst acc) := r.keep r7 d6 ⟨(fun _ z => by cases z), fun _ z => by cases z⟩
    have tu := tups_upd (o := .lst (acc ++ [v])) (no_tup d7 (fun _ z => by cases z) fun _ _ z => by cases z)
    refine ⟨acc, d7, ?_, acc ++ [v], upd_same, r.mt (r.trans (r.trans (r.trans r4 r5) r6) r7) hD, ?_⟩
    · rw [DpAll.length hd]
      exact Nat.lt_of_le_of_lt (hlen i) hz
    · rw [htake, List.filter_append, List.map_append, List.filter_cons, hb]
      refine DpAll.app (dp_nolAll tu ?_ (r.dpAll r7 a6)) (.cons (dp_nol tu (hn s hm) p) .nil)
      exact nolAll_iff.mpr fun d hd => by
        obtain ⟨z, hz', rfl⟩ := List.mem_map.mp hd
        exact hn z (List.mem_of_mem_take (List.mem_filter.mp hz').1)
/-- [elt for tg in iter if ..]: src filtered, mapped -/
theorem de_lcO {α : Type} {src : List α} {ι : α → Pv} {bo : α → Bool} {eo : α → PyData} {elt tg iter : Expr} {ifs : List Expr} {scope : Scope} {own : List (Str × Nat)} {g : TG} (r : Rl R) (hc : X.calm = true) (hN : X.N.Nodup) (ok : BlkOk X.N X.env.scope scope own)
    (S : Src X R σ H tg iter src ι) (hz : src.length < sizeLine) (hn : ∀ s ∈ src, nol (eo s) = true) (hg : Blk X scope fun Y => PG Y tg g) (gm : GMo g) (hs : LcTurn X R H σ src ι bo eo elt ifs scope (own.map (·.2)) g)
    (hf : ∀ x, foldedSetIterable iter X.env x = pure x := by intro _; rfl) : PE X (.ListComp elt [⟨tg, iter, ifs, 0⟩] scope pos) (tG R σ H (OL X.K ((src.filter bo).map eo))) := by
  obtain ⟨wi, hi, q⟩ := S.ex
  exact de_of (pe_lc hc hN hi ok hg PTs.selfB PE.selfB hf) fun H1 h1 Q k => lc_go r q hz hn hs gm h1 k
theorem de_lc {α : Type} {src : List α} {ι : α → Pv} {bo : α → Bool} {eo : α → PyData} {elt tg iter : Expr} {ifs : List Expr} {scope : Scope} {own : List (Str × Nat)} {g : TG} (r : Rl R) (hc : X.calm = true) (hN : X.N.Nodup) (ok : BlkOk X.N X.env.scope scope own)
    (S : Src X R σ H tg iter src ι) (hz : src.length < sizeLine) (hn : ∀ s ∈ src, nol (eo s) = true) (hg : Blk X scope fun Y => PG Y tg g) (gm : GMo g) (hs : LcTurn X R H σ src ι bo eo elt ifs scope (own.map (·.2)) g)
    (hf : ∀ x, foldedSetIterable iter X.env x = pure x := by intro _; rfl) : PE X (.ListComp elt [⟨tg, iter, ifs, 0⟩] scope pos) (tG R σ H (Hd X.K (.list ((src.filter bo).map eo)))) :=
  de_imp (de_lcO r hc hN ok S hz hn hg gm hs hf) (fun _ _ _ h => ol_dp h) r
theorem filter_yes {α : Type} (l : List α) : l.filter (fun _ => true) = l := List.filter_eq_self.mpr fun _ _ => rfl
/-- .. without tests -/
theorem de_lcM {α : Type} {src : List α} {ι : α → Pv} {eo : α → PyData} {elt tg iter : Expr} {scope : Scope} {own : List (Str × Nat)} {g : TG} (r : Rl R) (hc : X.calm = true) (hN : X.N.Nodup) (ok : BlkOk X.N X.env.scope scope own)
    (S : Src X R σ H tg iter src ι) (hz : src.length < sizeLine) (hn : ∀ s ∈ src, nol (eo s) = true) (hg : Blk X scope fun Y => PG Y tg g) (gm : GMo g)
    (hs : ∀ s x H', s ∈ src → R H H' → ι s x H' → g x (wipe σ (own.map (·.2))) H' fun σ2 H2 => wipe σ2 (own.map (·.2)) = wipe σ (own.map (·.2)) ∧ R H' H2 ∧ (∀ H3, R H2 H3 → Blk X scope fun Y => PE Y elt (tG R σ2 H3 (Hd X.K (eo s)))))
    (hf : ∀ x, foldedSetIterable iter X.env x = pure x := by intro _; rfl) : PE X (.ListComp elt [⟨tg, iter, [], 0⟩] scope pos) (tG R σ H (Hd X.K (.list (src.map eo)))) := by
  have z := de_lc (pos := pos) (bo := fun _ => true) (eo := eo) r hc hN ok S hz hn hg gm (elt := elt) (ifs := []) (fun s x H' hm h' i => gm _ _ _ _ _ (fun σ2 H2 q => ⟨q.1, q.2.1, fun _ _ _ _ _ => dts_nil r rfl, fun _ => q.2.2⟩) (hs s x H' hm h' i)) hf
  rw [filter_yes] at z
  exact z
theorem de_lcMO {α : Type} {src : List α} {ι : α → Pv} {eo : α → PyData} {elt tg iter : Expr} {scope : Scope} {own : List (Str × Nat)} {g : TG} (r : Rl R) (hc : X.calm = true) (hN : X.N.Nodup) (ok : BlkOk X.N X.env.scope scope own)
    (S : Src X R σ H tg iter src ι) (hz : src.length < sizeLine) (hn : ∀ s ∈ src, nol (eo s) = true) (hg : Blk X scope fun Y => PG Y tg g) (gm : GMo g)
    (hs : ∀ s x H', s ∈ src → R H H' → ι s x H' → g x (wipe σ (own.map (·.2))) H' fun σ2 H2 => wipe σ2 (own.map (·.2)) = wipe σ (own.map (·.2)) ∧ R H' H2 ∧ (∀ H3, R H2 H3 → Blk X scope fun Y => PE Y elt (tG R σ2 H3 (Hd X.K (eo s)))))
    (hf : ∀ x, foldedSetIterable iter X.env x = pure x := by intro _; rfl) : PE X (.ListComp elt [⟨tg, iter, [], 0⟩] scope pos) (tG R σ H (OL X.K (src.map eo))) := by
  have z := de_lcO (pos := pos) (bo := fun _ => true) (eo := eo) r hc hN ok S hz hn hg gm (elt := elt) (ifs := []) (fun s x H' hm h' i => gm _ _ _ _ _ (fun σ2 H2 q => ⟨q.1, q.2.1, fun _ _ _ _ _ => dts_nil r rfl, fun _ => q.2.2⟩) (hs s x H' hm h' i)) hf
  rw [filter_yes] at z
  exact z
/-- y = [..] on one line, y a local -/
theorem bs_setLc {α : Type} {src : List α} {ι : α → Pv} {bo : α → Bool} {eo : α → PyData} {elt tg iter : Expr} {ifs : List Expr} {scope : Scope} {own : List (Str × Nat)} {g : TG} {i : Nat} {y : Str} {py spos : Pos} (r : Rl R) (hc : X.calm = true) (hN : X.N.Nodup) (hy : X.N[i]? = some y) (hyl : X.env.scope.names.lookup y = some .local)
    (hsw : swapsWith (.ListComp elt [⟨tg, iter, ifs, 0⟩] scope pos) (some (.Name y py)) spos.line X.env = pure true) (ok : BlkOk X.N X.env.scope scope own)
    (S : Src X R σ H tg iter src ι) (hz : src.length < sizeLine) (hn : ∀ s ∈ src, nol (eo s) = true) (hg : Blk X scope fun Y => PG Y tg g) (gm : GMo g) (hs : LcTurn X R H σ src ι bo eo elt ifs scope (own.map (·.2)) g)
    (k : ∀ v H', R H H' → Dp X.K H' v (.list ((src.filter bo).map eo)) → PSs X rest (tAt (σ.set i (some v)) H' D)) (hf : ∀ x, foldedSetIterable iter X.env x = pure x := by intro _; rfl) :
    PSs X (.Assign [.Name y py] (.ListComp elt [⟨tg, iter, ifs, 0⟩] scope pos) spos :: rest) (tAt σ H D) := by
  obtain ⟨wi, hi, q⟩ := S.ex
  exact bs_seq (ps_setLc (i := i) hc hN hy hyl hsw hi ok hg PTs.selfB PE.selfB hf) (lc_go r q hz hn hs gm (r.refl _) fun v H2 h2 z => k v H2 h2 (ol_dp z))
end
/-! ### a def's promise, by its body -/
/-- where a def of the text stands behind the top -/
structure Df (K : Fg) (f : Addr) (nm qual : Str) (st : Stmt) : Prop where
  ex : ∃ fd, FunD K nm qual (defArgs st) (defBody st) (defScope st) [] [] f fd
abbrev Bnd1 (nm qual : Str) (st : Stmt) (ps : List Str) : Prop := ∀ (kV doc pm : Value) (an : Option Addr) (cdv ct : Value) (us : List Value), us.length = ps.length → bindArgs (PySem.W.fnOf nm qual (defArgs st) (defBody st) (defScope st) .none kV doc pm an cdv ct) ⟨us, []⟩ = pure (ps.zip us)
section
variable {P : Program} {w : World} {K : Fg} {mg : Str → Option Value} {base : Heap} {τ : Type} {R : τ → Rel} {Pre : τ → Prop} {A : τ → List Pv} {B : τ → Pv} {k : Nat}
/-- the context of a body -/
abbrev CxB (P : Program) (w : World) (K : Fg) (mg : Str → Option Value) (base : Heap) (N : List Str) (qual : Str) (scope : Scope) (f : Addr) (cd : Value) (A : Around) (outer : List Env) (s : Shared) (H : Hp) (E : XK) : Cx := (cxOf CX0 P w K mg base N qual scope f cd A outer s H E).nox
theorem fna_of {f : Addr} {nm qual : Str} {st : Stmt} {N ps : List Str} (D : Df K f nm qual st) (S : FnScope N ps (defScope st)) (bnd : Bnd1 nm qual st ps) (len : ∀ x, (A x).length = ps.length)
    (body : ∀ (cdv : Value) (A0 : Around) (outer : List Env) (s : Shared) (H : Hp) (E : XK) (x : τ) (vs : List V) (Q : VK), Room k (A0.deeper (envOfC qual (defScope st) s.heap.objs.size f cdv)) → Pre x → All2 (A x) vs H → (∀ v H', R x H H' → B x v H' → Q v H') →
      PSs (CxB P w K mg base N qual (defScope st) f cdv A0 outer s H E) (defBody st) (tAt (start N vs) H { nx := fun _ H' => Q .non H', rt := Q })) : Fna P w K mg base (k + 1) f (spT R Pre A B) := by
  obtain ⟨fd, F⟩ := D.ex
  refine ⟨fd, ps, ?_, F.kp, F.bindsN bnd⟩
  refine F.ok S (fun vs H Q E ⟨x, _, a, _⟩ => by rw [All2.length a]; exact len x) (fun cdv A0 outer s H vs Q E hr ⟨x, pre, a, q⟩ => ?_)
  exact ⟨_, (body cdv A0 outer s H E x vs Q hr pre a q).nox, rfl, rfl, rfl⟩
end
end Lf
set_option maxHeartbeats 4000000
/-! Lay4: chains, slices, zip, enumerate over tuples. -/
namespace Lf
open PySem PySem.Spec L2
open PyProof.Rows hiding St
/-! ### enumerate of anything that begins, its count from 0 -/
section
variable {prog : Program} {w : World} {A : Around} {E : Value → Shared → Prop} {s : Shared}
theorem enum1_meets {v : Value} {o : Obj} {Hb : Heap → Prop} (B : Begins v o Hb) : Meets (Builtin.«enumerate.__new__» ⟨[.type "enumerate", v], []⟩)
    (fun _ Rr s => Hb s.heap ∧ Rr (.ok (.ret (.ref (s.heap.push o).objs.size))) { s with heap := (s.heap.push o).push (Obj.mk (.type "enumerate") none (.fields #[.none, .bool false, .ref s.heap.objs.size, rawInt 0, .none, .none]) #[]) }) :=
  .of_wp fun prog w A Rr s hy => by
    obtain ⟨hp, g, d, tk, os⟩ := s
    obtain ⟨hb, hy⟩ := hy
    have hsub := sub_enumerate
    have it : ∀ {A' : Around} {E' : Value → Shared → Prop} {Q' : Value → Shared → Prop}, Q' (.ref hp.objs.size) ⟨hp.push o, g, d, tk, os⟩ → wpAny (model prog w) A' (pyIter v) Q' E' ⟨hp, g, d, tk, os⟩ := fun q => B.iter prog w _ _ _ _ hb q
    wp_walk using it
    refine wpAny_stack_any fun _ => wpAny_pure ?_
    split
    · rename_i c _ _ _ _ _
      cases (c == Value.type "enumerate") <;> (wp_walk using it; exact ⟨_, rfl, hy⟩)
    · wp_walk using it
      exact ⟨_, rfl, hy⟩
theorem enum1_begins {v : Value} {o : Obj} {Hb : Heap → Prop} {Q : Value → Shared → Prop} (B : Begins v o Hb) (hb : Hb s.heap)
    (k : ∀ h', IsEnum h' (s.heap.objs.size + 1) s.heap.objs.size 0 .none → h'.get? s.heap.objs.size = some o → (∀ b u, s.heap.get? b = some u → h'.get? b = some u) → Q (.ref (s.heap.objs.size + 1)) { s with heap := h' }) :
    wpAny (model prog w) A (call (.type "enumerate") [v]) Q E s := by
  have sz : (s.heap.push o).objs.size = s.heap.objs.size + 1 := Heap.size_push ..
  refine callType_new F.called_enumerate (by decide) (F.typeCall_enumerate_1 _) (F.newCall_enumerate_1 _) (fun ob => F.args_object_init_2 ob _) F.entry_enumerate_new (enum1_meets B) ⟨hb, ?_⟩
  show _ ∧ _
  rw [sz]
  have ie : IsEnum ((s.heap.push o).push (Obj.mk (.type "enumerate") none (.fields #[.none, .bool false, .ref s.heap.objs.size, rawInt 0, .none, .none]) #[])) (s.heap.objs.size + 1) s.heap.objs.size 0 .none := by
    have z := Heap.get?_push_size (s.heap.push o) (o := Obj.mk (.type "enumerate") none (.fields #[.none, .bool false, .ref s.heap.objs.size, rawInt 0, .none, .none]) #[]) rfl
    rw [sz] at z
    exact z
  exact ⟨⟨_, ie, rfl⟩, k _ ie (Heap.get?_push_of_some _ (Heap.get?_push_size _ B.free)) fun b u x => Heap.get?_push_of_some _ (Heap.get?_push_of_some _ x)⟩
end
/-- the tuple at a, its items in new pairs with their places -/
def ItEt (K : Fg) (a : Addr) : It :=
  ⟨fun i H => ∃ (xs : List V) (x : V), SqT K H a xs ∧ xs[i]? = some x,
   fun i H v H' => ∃ T x, v = .ref T ∧ H T = none ∧ H' = upd H T (.tup [.int (i : Nat), x]) ∧ ∀ xs, SqT K H a xs → xs[i]? = some x,
   fun i H => ∃ xs : List V, SqT K H a xs ∧ xs.length = i⟩
theorem turn_enumT {P : Program} {w : World} {K : Fg} {elts : List Expr} {kk : Nat} {tpos : Pos} (a e it : Addr) (hne : e ≠ it) (hea : e ≠ a) (hia : it ≠ a) :
    Turn P w K (.Tuple elts kk tpos) (ItEt K a) [e, it] e (fun i h => (∃ old, IsEnum h e it ((i : Nat) : Int) old) ∧ h.IsTupleIter it a i) where
  mem := List.mem_cons_self
  obj := fun i h st b hb => by
    obtain ⟨⟨old, he⟩, ⟨o, ho, hc, hd⟩⟩ := st
    rcases List.mem_cons.mp hb with z | hb
    · subst z
      exact ⟨_, he, fun v q => nomatch q⟩
    · rcases List.mem_cons.mp hb with z | hb
      · subst z
        exact ⟨o, ho, fun v q => by rw [hd] at q; cases q⟩
      · cases hb
  keep := fun i h h' st k => ⟨let ⟨old, he⟩ := st.1; ⟨old, k e List.mem_cons_self _ he⟩, st.2.at fun o q => k it (List.mem_cons_of_mem _ List.mem_cons_self) o q⟩
  item := by
    intro X hP hw hK hc i pins s σ H E I hf st hg
    subst hP hw hK
    obtain ⟨⟨old, he⟩, hit⟩ := st
    obtain ⟨xs, x, hq, hx⟩ := hg
    obtain ⟨its, rv, p, hz⟩ := I.tuple hq
    obtain ⟨u, hu, ru⟩ := rv.get hx
    have hlt : i < its.length := (List.getElem?_eq_some_iff.mp hu).1
    have hel : e < s.heap.objs.size := Heap.lt_size he
    have hil : it < s.heap.objs.size := by obtain ⟨_, q, _⟩ := hit; exact Heap.lt_size q
    have W := GoesN.enumFrom (prog := X.prog) (w := X.w) (A := X.A) (elts := elts) (x1 := kk) (pos := tpos) 0 (Draws.tuple (A := X.A.in1) (I.ok.hd hc) it a (Ne.symm hia) its.toArray) e hne (by simp [hne, hea]) (by simp)
    have st0 : (∃ old, IsEnum s.heap e it ((0 : Int) + (i : Int)) old) ∧ s.heap.IsTupleIter it a i ∧ s.heap.IsTuple a its.toArray := ⟨⟨old, by rw [Int.zero_add]; exact he⟩, hit, p⟩
    refine wpAny_mono (W.goes i s (fun v s2 => ∃ x H', Inv X pins σ H' s2 ∧ RelV x v ∧ (ItEt X.K a).yld i H x H' ∧ ((∃ old, IsEnum s2.heap e it ((i + 1 : Nat) : Int) old) ∧ s2.heap.IsTupleIter it a (i + 1)) ∧ ∀ b ∈ [e, it], H' b = none) E (by simpa using hlt) st0 fun v h' tk hY st' hk htk => ?_) (fun r s1 h1 => ?_) fun _ _ q => q
    · obtain ⟨T, t, y, rfl, hnew, hy, hT⟩ := hY
      obtain ⟨⟨old', he'⟩, hit', _⟩ := st'
      have ey : u = y := by
        have z : its.toArray[i]? = some u := by simpa using hu
        rw [z] at hy; exact Option.some.inj hy
      subst ey
      obtain ⟨oT, hoT, hcT, nT, hdT⟩ := hT
      have hfT : H T = none := I.hok.fresh hnew
      have new : ObjOk X.prog X.w (upd H T (.tup [.int (i : Nat), x])) h' T (.tup [.int (i : Nat), x]) :=
        ⟨by show 2 ≤ sizeLine; decide, [.int ((0 : Int) + (i : Int)) t, u], .cons ⟨t, by rw [Int.zero_add]⟩ (.cons ru .nil), ⟨oT, hoT, hcT, nT, hdT⟩⟩
      have I1 : Inv X pins σ (upd H T (.tup [.int (i : Nat), x])) { s with heap := h', toks := tk } := I.turnedNew (ch := [e, it]) (fun b ob hb q => hk b ob hb q) hf hnew new
      refine ⟨.ref T, _, I1, rfl, ⟨T, x, rfl, hfT, rfl, fun ys hy' => by rw [I.tuple_inj hy' hq]; exact hx⟩, ⟨⟨old', ?_⟩, hit'⟩, fun b hb => ?_⟩
      · have e1 : ((i + 1 : Nat) : Int) = 0 + ((i + 1 : Nat) : Int) := by omega
        rw [e1]; exact he'
      · have lt : b < T := by
          rcases List.mem_cons.mp hb with z | hb
          · rw [z]; exact Nat.lt_of_lt_of_le hel hnew
          · rcases List.mem_cons.mp hb with z | hb
            · rw [z]; exact Nat.lt_of_lt_of_le hil hnew
            · cases hb
        rw [upd_ne (Nat.ne_of_lt lt)]
        exact (hf b hb).1
    · obtain ⟨v, e1, h2⟩ := h1
      exact ⟨v, e1, h2⟩
  done := by
    intro X hP hw hK hc i pins s σ H E I hf st hg
    subst hP hw hK
    obtain ⟨⟨old, he⟩, hit⟩ := st
    obtain ⟨xs, hq, hx⟩ := hg
    obtain ⟨its, rv, p, hz⟩ := I.tuple hq
    have hl := rv.length
    have W := GoesN.enumFrom (prog := X.prog) (w := X.w) (A := X.A) (elts := elts) (x1 := kk) (pos := tpos) 0 (Draws.tuple (A := X.A.in1) (I.ok.hd hc) it a (Ne.symm hia) its.toArray) e hne (by simp [hne, hea]) (by simp)
    have hi : i = its.length := hx.symm.trans hl
    have st0 : (∃ old, IsEnum s.heap e it ((0 : Int) + ((its.toArray.size : Nat) : Int)) old) ∧ s.heap.IsTupleIter it a its.toArray.size ∧ s.heap.IsTuple a its.toArray := by
      rw [List.size_toArray, ← hi]
      exact ⟨⟨old, by rw [Int.zero_add]; exact he⟩, hit, p⟩
    refine W.stops s (fun s1 => Inv X pins σ H s1) E st0 fun h' tk hk htk => ?_
    exact I.turnedL (ch := [e, it]) (fun b o hb q => hk b o hb q) hf
  self := fun A i s Q E st k => let ⟨⟨_, he⟩, _⟩ := st; wpAny_pyIter_enum he k

def iEnumT (K : Fg) (ta : TA) : TI := fun σ H Rr => ta σ H fun vs H1 => ∃ a xs, vs = [.ref a] ∧ SqT K H1 a xs ∧ Rr (ItEt K a) H1
theorem pi_enumT {X : Cx} {e : Expr} {ta : TA} {p pos tpos : Pos} {elts : List Expr} {kk : Nat} (hg : Gl X "enumerate") (hm : X.mg "enumerate" = none) (ha : PA X [e] ta) (hs : starEach [e] X.env = [(false, eval e X.env)] := by rfl) :
    PI X (.Tuple elts kk tpos) (.Call (.Name "enumerate" p) [e] [] pos) (iEnumT X.K ta) := by
  refine ⟨fun pins s σ H Rr I h => ?_⟩
  refine Call_ (ld_blt I hg hm boot_enumerate (PyProof.Rows.callWith_type1 (thn (ha.run pos pins s σ H _ I h) fun us s1 ⟨vs, H1, I1, r1, q1⟩ => ?_) hs rfl))
  obtain ⟨a, xs, rfl, hq, q⟩ := q1
  obtain ⟨u, rfl, ru⟩ := vals1 r1
  cases ru
  obtain ⟨its, rv, p', hz⟩ := I1.tuple hq
  have hal : a < s1.heap.objs.size := by obtain ⟨o, ho, _⟩ := id p'; exact Heap.lt_size ho
  refine enum1_begins (begins_tuple a its.toArray) p' fun h' he hit hk => wpAny_pyIter_enum he ?_
  have I2 : Inv X pins σ H1 { s1 with heap := h' } := I1.kept (t' := s1.toks) hk
  refine ⟨s1.heap.objs.size + 1, [s1.heap.objs.size + 1, s1.heap.objs.size], _, _, H1, rfl, I2, turn_enumT a (s1.heap.objs.size + 1) s1.heap.objs.size (Nat.succ_ne_self _) (fun z => absurd hal (by rw [← z]; exact fun l => absurd (Nat.lt_of_succ_lt l) (Nat.lt_irrefl _))) (fun z => absurd hal (by rw [← z]; exact Nat.lt_irrefl _)), ⟨⟨.none, he⟩, ⟨_, hit, rfl, rfl⟩⟩, fun b hb => ?_, q⟩
  have hle : s1.heap.objs.size ≤ b := by
    rcases List.mem_cons.mp hb with z | hb
    · rw [z]; exact Nat.le_succ _
    · rcases List.mem_cons.mp hb with z | hb
      · rw [z]; exact Nat.le_refl _
      · cases hb
  exact I1.fpOk hle (I1.hok.fresh hle)
theorem walk_enumT {K : Fg} {a : Addr} {xs : List V} : Walk (ItEt K a) xs.length (fun H => SqT K H a xs) (YPair (fun i => some (.int (i : Nat))) (fun i => xs[i]?)) :=
  ⟨fun i H hi g => ⟨xs, xs[i], g, by simp [hi]⟩, fun H g => ⟨xs, g, rfl⟩, fun i H x H' hi g y => by
    obtain ⟨T, z, rfl, hT, rfl, hz⟩ := y
    exact ⟨T, .int (i : Nat), z, rfl, hT, rfl, rfl, hz xs g⟩⟩
section
variable {X : Cx} {R : Rel} {σ : St} {H : Hp} {e e2 a b c : Expr} {p pos tpos : Pos} {elts : List Expr} {kk : Nat}
/-- for i, x in enumerate(t): the place and the item -/
theorem src_enumT {α : Type} {src : List α} {f : α → PyData} (r : Rl R) (hg : Gl X "enumerate") (hm : X.mg "enumerate" = none) (h : PE X e (tG R σ H (Hd X.K (.tuple (src.map f))))) (hs : starEach [e] X.env = (false, eval e X.env) :: starEach [] X.env := by rfl) :
    Src X R σ H (.Tuple elts kk tpos) (.Call (.Name "enumerate" p) [e] [] pos) src.zipIdx (fun s => Hd X.K (.tuple [.int (s.2 : Nat), f s.1])) :=
  ⟨_, pi_enumT hg hm (da_cons r (mo_d r) h (da_nil r) hs) hs, fun H1 h1 Rr k => ⟨rfl, h1, fun vs H2 h2 q => by
    obtain ⟨v, rfl, hd⟩ := all1 q
    obtain ⟨a, xs, rfl, hq, hall⟩ := dp_tup hd
    have hl : xs.length = src.zipIdx.length := by rw [DpAll.length hall, List.length_map, List.length_zipIdx]
    refine ⟨a, xs, rfl, hq, k _ H2 _ _ h2 (by rw [← hl]; exact walk_enumT) hq (fun _ _ x g => r.sqT x g) fun i H3 x H4 h3 g y => ?_⟩
    obtain ⟨T, z, u, rfl, hT, rfl, hz, hu⟩ := y
    cases hz
    obtain ⟨d, e1, e2⟩ := DpAll.getV (r.dpAll h3 hall) hu
    rw [List.getElem?_map] at e1
    cases q : src[i]? with
    | none => rw [q] at e1; cases e1
    | some s =>
      rw [q] at e1
      cases e1
      exact ⟨Ex.new hT, (s, i), by rw [List.getElem?_zipIdx, q]; simp, .tup (.inl (.inl upd_same)) (.cons (.int _) (.cons (rlEx.dp (Ex.new hT) e2) .nil))⟩⟩⟩
/-- a op b op' c, ints -/
theorem dt_chainI {op op' : CmpOp} {g g' : Int → Int → Bool} {l m n : Int} (r : Rl R) (o : OpR X (compareOp op) (rI0 fun i j => .bl (g i j))) (o' : OpR X (compareOp op') (rI0 fun i j => .bl (g' i j))) (ha : PE X a (tG R σ H (Hd X.K (.int l)))) (hb : PE X b (tG R σ H (Hd X.K (.int m)))) (hc : PE X c (tG R σ H (Hd X.K (.int n))))
    (hm : lastMarks [op, op'] [b, c] = false := by with_unfolding_all rfl) : PT X (.Compare a [op, op'] [b, c] pos) (tT R σ H (g l m && g' m n)) :=
  PT.imp (pt_chain o o' ha hb hc hm) fun _ _ _ ⟨e1, h1, k⟩ => ⟨e1, h1, fun x H2 h2 p => ⟨e1, r.trans h1 h2, fun y H3 h3 q => ⟨l, m, dp_int p, dp_int q, g l m, rfl, by
    cases hgl : g l m with
    | true => exact ⟨e1, r.trans (r.trans h1 h2) h3, fun z H4 h4 w => ⟨m, n, dp_int q, dp_int w, g' m n, rfl, by rw [hgl] at k; exact k H4 (r.trans (r.trans h2 h3) h4)⟩⟩
    | false => exact ⟨false, rfl, by rw [hgl] at k; exact k H3 (r.trans h2 h3)⟩⟩⟩⟩
theorem de_chainI {op op' : CmpOp} {g g' : Int → Int → Bool} {l m n : Int} (r : Rl R) (o : OpR X (compareOp op) (rI0 fun i j => .bl (g i j))) (o' : OpR X (compareOp op') (rI0 fun i j => .bl (g' i j))) (ha : PE X a (tG R σ H (Hd X.K (.int l)))) (hb : PE X b (tG R σ H (Hd X.K (.int m)))) (hc : PE X c (tG R σ H (Hd X.K (.int n))))
    (hm : lastMarks [op, op'] [b, c] = false := by with_unfolding_all rfl) : PE X (.Compare a [op, op'] [b, c] pos) (tG R σ H (Hd X.K (.bool (g l m && g' m n)))) :=
  PE.imp (pe_chain o o' ha hb hc hm) fun _ _ _ ⟨e1, h1, k⟩ => ⟨e1, h1, fun x H2 h2 p => ⟨e1, r.trans h1 h2, fun y H3 h3 q => ⟨l, m, dp_int p, dp_int q, g l m, rfl, by
    cases hgl : g l m with
    | true => exact ⟨e1, r.trans (r.trans h1 h2) h3, fun z H4 h4 w => ⟨m, n, dp_int q, dp_int w, by rw [hgl] at k; exact k _ H4 (r.trans (r.trans h2 h3) h4) (.bl _)⟩⟩
    | false => rw [hgl] at k; exact k _ H3 (r.trans h2 h3) (.bl _)⟩⟩⟩
/-- l[lo:hi], l a list: the parts' places given -/
def cutD (ds : List PyData) (lo hi : Option Int) : List PyData := (ds.drop (HT.sIx ds.length 0 lo)).take (HT.sIx ds.length ds.length hi - HT.sIx ds.length 0 lo)
theorem DpAll.drop {K : Fg} : ∀ {vs : List V} {ds : List PyData} (n : Nat), DpAll K H vs ds → DpAll K H (vs.drop n) (ds.drop n)
  | _, _, 0, h => h
  | _, _, n + 1, .nil => .nil
  | _, _, n + 1, .cons _ t => DpAll.drop n t
theorem DpAll.take {K : Fg} : ∀ {vs : List V} {ds : List PyData} (n : Nat), DpAll K H vs ds → DpAll K H (vs.take n) (ds.take n)
  | _, _, 0, _ => .nil
  | _, _, n + 1, .nil => .nil
  | _, _, n + 1, .cons h t => .cons h (DpAll.take n t)
theorem DpAll.cut {K : Fg} {vs : List V} {ds : List PyData} {lo hi : Option Int} (h : DpAll K H vs ds) : DpAll K H (cutV vs lo hi) (cutD ds lo hi) := by
  unfold cutV cutD
  rw [DpAll.length h]
  exact DpAll.take _ (DpAll.drop _ h)
/-- a part of a slice -/
def tP (R : Rel) (σ0 : St) (H0 : Hp) (o : Option Int) : TO := fun σ H Q => σ = σ0 ∧ R H0 H ∧ ∀ H', R H H' → Q o H'
theorem PO.imp {eo : Option Expr} {t t' : TO} (h : PO X eo t) (i : ∀ σ H Q, t' σ H Q → t σ H Q) : PO X eo t' := ⟨fun pins s σ H Q I q => h.run pins s σ H Q I (i σ H Q q)⟩
theorem dpo_none (r : Rl R) : PO X none (tP R σ H none) := PO.imp po_none fun _ H' _ ⟨_, _, k⟩ => k H' (r.refl _)
theorem dpo_some {i : Int} (h : PE X e (tG R σ H (Hd X.K (.int i)))) : PO X (some e) (tP R σ H (some i)) := PO.imp (po_some h) fun _ _ _ ⟨e1, h1, k⟩ => ⟨e1, h1, fun v H2 h2 p => ⟨i, dp_int p, k H2 h2⟩⟩
theorem de_slL {p2 : Pos} {ds : List PyData} {lo hi : Option Expr} {l h : Option Int} (r : Rl R) (ha : PE X a (tG R σ H (Hd X.K (.list ds)))) (hl : PO X lo (tP R σ H l)) (hh : PO X hi (tP R σ H h)) : PE X (.Subscript a (.Slice lo hi none p2) pos) (tG R σ H (Hd X.K (.list (cutD ds l h)))) :=
  PE.imp (pe_slice sl_list ha hl hh) fun _ _ _ ⟨e1, h1, k⟩ => ⟨e1, h1, fun v H2 h2 q => ⟨e1, r.trans h1 h2, fun H3 h3 => ⟨e1, r.trans (r.trans h1 h2) h3, fun H4 h4 => by
    obtain ⟨t, xs, rfl, hq, hd⟩ := dp_lst q
    refine ⟨t, xs, rfl, r.sqL (r.trans h3 h4) hq, fun z hz => k _ _ (r.trans (r.trans (r.trans h2 h3) h4) (r.ex (Ex.new hz))) (.lst (.inl (.inl upd_same)) (r.dpAll (r.ex (Ex.new hz)) (DpAll.cut (r.dpAll (r.trans h3 h4) hd))))⟩⟩⟩⟩
/-- t[lo:hi], t a tuple, not the whole of it -/
theorem de_slT {p2 : Pos} {ds : List PyData} {lo hi : Option Expr} {l h : Option Int} (r : Rl R) (ha : PE X a (tG R σ H (Hd X.K (.tuple ds)))) (hl : PO X lo (tP R σ H l)) (hh : PO X hi (tP R σ H h)) (hw : ¬ (HT.sIx ds.length 0 l = 0 ∧ HT.sIx ds.length ds.length h = ds.length)) :
    PE X (.Subscript a (.Slice lo hi none p2) pos) (tG R σ H (Hd X.K (.tuple (cutD ds l h)))) :=
  PE.imp (pe_slice sl_tup ha hl hh) fun _ _ _ ⟨e1, h1, k⟩ => ⟨e1, h1, fun v H2 h2 q => ⟨e1, r.trans h1 h2, fun H3 h3 => ⟨e1, r.trans (r.trans h1 h2) h3, fun H4 h4 => by
    obtain ⟨t, xs, rfl, hq, hd⟩ := dp_tup q
    refine ⟨t, xs, rfl, r.sqT (r.trans h3 h4) hq, by rw [DpAll.length hd]; exact hw, fun z hz => k _ _ (r.trans (r.trans (r.trans h2 h3) h4) (r.ex (Ex.new hz))) (.tup (.inl (.inl upd_same)) (r.dpAll (r.ex (Ex.new hz)) (DpAll.cut (r.dpAll (r.trans h3 h4) hd))))⟩⟩⟩⟩
/-- for x, y in zip(l, m): lists, tuples, of one length or not -/
theorem walk_zipT {K : Fg} {a b : Addr} {xs ys : List V} {n : Nat} (hn : n = min xs.length ys.length) : Walk (RZ.ItzT K a b) n (fun H => SqT K H a xs ∧ SqT K H b ys) (YPair (fun i => xs[i]?) (fun i => ys[i]?)) :=
  ⟨fun i H hi g => ⟨xs, ys, xs[i]'(by omega), ys[i]'(by omega), g.1, g.2, by simp, by simp⟩, fun H g => ⟨xs, ys, g.1, g.2, by omega⟩, fun i H x H' hi g y => by
    obtain ⟨T, u, v, rfl, hT, rfl, h1, h2⟩ := y
    exact ⟨T, u, v, rfl, hT, rfl, h1 xs g.1, h2 ys g.2⟩⟩
theorem zip_at {α β : Type} {l : List α} {m : List β} {i : Nat} {x : α} {y : β} (h1 : l[i]? = some x) (h2 : m[i]? = some y) : (l.zip m)[i]? = some (x, y) := by
  rw [List.getElem?_zip_eq_some]
  exact ⟨h1, h2⟩
theorem map_get {α β : Type} {l : List α} {f : α → β} {i : Nat} {d : β} (h : (l.map f)[i]? = some d) : ∃ s, l[i]? = some s ∧ d = f s := by
  rw [List.getElem?_map] at h
  cases q : l[i]? with
  | none => rw [q] at h; cases h
  | some s => rw [q] at h; cases h; exact ⟨s, rfl, rfl⟩
theorem src_zipT {α β : Type} {l : List α} {m : List β} {f : α → PyData} {g : β → PyData} (r : Rl R) (hg : Gl X "zip") (hm : X.mg "zip" = none) (h : PE X e (tG R σ H (Hd X.K (.tuple (l.map f))))) (h' : PE X e2 (tG R σ H (Hd X.K (.tuple (m.map g)))))
    (hs : starEach [e, e2] X.env = (false, eval e X.env) :: starEach [e2] X.env := by rfl) (hs2 : starEach [e2] X.env = (false, eval e2 X.env) :: starEach [] X.env := by rfl) (hpl : (backTo pos (starEach [e2] X.env)).any (·.1) = false := by rfl) :
    Src X R σ H (.Tuple elts kk tpos) (.Call (.Name "zip" p) [e, e2] [] pos) (l.zip m) (fun s => Hd X.K (.tuple [f s.1, g s.2])) :=
  ⟨_, RZ.pi_zipA hg hm (da_cons r (mo_d r) h (da_cons r (mo_d r) h' (da_nil r) hs2) hs) hs hpl, fun H1 h1 Rr k => ⟨rfl, h1, fun vs H2 h2 q => by
    obtain ⟨v, u, rfl, hd1, hd2⟩ := all2 q
    obtain ⟨a, xs, rfl, hq1, ha1⟩ := dp_tup hd1
    obtain ⟨b, ys, rfl, hq2, ha2⟩ := dp_tup hd2
    refine ⟨a, b, xs, ys, rfl, .inr ⟨hq1, hq2, k _ H2 _ _ h2 (walk_zipT (xs := xs) (ys := ys) (by rw [List.length_zip, DpAll.length ha1, DpAll.length ha2, List.length_map, List.length_map])) ⟨hq1, hq2⟩ (fun _ _ x g => ⟨r.sqT x g.1, r.sqT x g.2⟩) fun i H3 x H4 h3 gg y => ?_⟩⟩
    obtain ⟨T, x1, y1, rfl, hT, rfl, hx, hy⟩ := y
    obtain ⟨d, e1, p1⟩ := DpAll.getV (r.dpAll h3 ha1) hx
    obtain ⟨d', e1', p2⟩ := DpAll.getV (r.dpAll h3 ha2) hy
    obtain ⟨s, q1, rfl⟩ := map_get e1
    obtain ⟨s', q2, rfl⟩ := map_get e1'
    exact ⟨Ex.new hT, (s, s'), zip_at q1 q2, .tup (.inl (.inl upd_same)) (.cons (rlEx.dp (Ex.new hT) p1) (.cons (rlEx.dp (Ex.new hT) p2) .nil))⟩⟩⟩
theorem src_zipL {α β : Type} {l : List α} {m : List β} {f : α → PyData} {g : β → PyData} (r : Rl R) (hg : Gl X "zip") (hm : X.mg "zip" = none) (h : PE X e (tG R σ H (Hd X.K (.list (l.map f))))) (h' : PE X e2 (tG R σ H (Hd X.K (.list (m.map g)))))
    (hs : starEach [e, e2] X.env = (false, eval e X.env) :: starEach [e2] X.env := by rfl) (hs2 : starEach [e2] X.env = (false, eval e2 X.env) :: starEach [] X.env := by rfl) (hpl : (backTo pos (starEach [e2] X.env)).any (·.1) = false := by rfl) :
    Src X R σ H (.Tuple elts kk tpos) (.Call (.Name "zip" p) [e, e2] [] pos) (l.zip m) (fun s => Hd X.K (.tuple [f s.1, g s.2])) :=
  ⟨_, RZ.pi_zipA hg hm (da_cons r (mo_d r) h (da_cons r (mo_d r) h' (da_nil r) hs2) hs) hs hpl, fun H1 h1 Rr k => ⟨rfl, h1, fun vs H2 h2 q => by
    obtain ⟨v, u, rfl, hd1, hd2⟩ := all2 q
    obtain ⟨a, xs, rfl, hq1, ha1⟩ := dp_lst hd1
    obtain ⟨b, ys, rfl, hq2, ha2⟩ := dp_lst hd2
    refine ⟨a, b, xs, ys, rfl, .inl ⟨hq1, hq2, k _ H2 _ _ h2 (walk_zip (xs := xs) (ys := ys) (by rw [List.length_zip, DpAll.length ha1, DpAll.length ha2, List.length_map, List.length_map])) ⟨hq1, hq2⟩ (fun _ _ x g => ⟨r.sqL x g.1, r.sqL x g.2⟩) fun i H3 x H4 h3 gg y => ?_⟩⟩
    obtain ⟨T, x1, y1, rfl, hT, rfl, hx, hy⟩ := y
    obtain ⟨d, e1, p1⟩ := DpAll.getV (r.dpAll h3 ha1) hx
    obtain ⟨d', e1', p2⟩ := DpAll.getV (r.dpAll h3 ha2) hy
    obtain ⟨s, q1, rfl⟩ := map_get e1
    obtain ⟨s', q2, rfl⟩ := map_get e1'
    exact ⟨Ex.new hT, (s, s'), zip_at q1 q2, .tup (.inl (.inl upd_same)) (.cons (rlEx.dp (Ex.new hT) p1) (.cons (rlEx.dp (Ex.new hT) p2) .nil))⟩⟩⟩
/-- a sign in a text -/
theorem de_inS {n : Nat} {x : Str} (r : Rl R) (ha : PE X a (tG R σ H (Hd X.K (.str ⟨#[n]⟩)))) (hb : PE X b (tG R σ H (Hd X.K (.str x)))) (hm : behindInMarks .In b = false := by rfl) : PE X (.Compare a [.In] [b] pos) (tG R σ H (Hd X.K (.bool (decide (n ∈ x.cps.toList))))) :=
  de_cmp r op_in_sign ha (mo_d r) hb hm fun u v H2 _ q q' Q k => ⟨n, x, dp_str q, dp_str q', k _ H2 (r.refl _) (.bl _)⟩
end
end Lf
set_option maxHeartbeats 2000000
/-! Txt (printed by gen_txt.py): the text by places. -/
namespace Lf
open PySem PySem.Spec L2
open PyProof.Rows hiding St
def top (i : Nat) : Stmt := PySem.Challenge.pw_lateforms_k26_whole_conversions.main.body.getD i (.Pass ⟨0, 0, 0, 0⟩)
abbrev s_kept_expression : Stmt := top 1
abbrev s_Kept_init : Stmt := inClass (top 2) 0
abbrev s_Kept_entries : Stmt := inClass (top 2) 1
abbrev s_Kept_form : Stmt := inClass (top 2) 2
abbrev s_Kept_expressions : Stmt := inClass (top 2) 3
abbrev s_Kept_row_of : Stmt := inClass (top 2) 4
abbrev s_Kept_eq : Stmt := inClass (top 2) 5
abbrev s_Renamed_init : Stmt := inClass (top 3) 0
abbrev s_Renamed_entries : Stmt := inClass (top 3) 1
abbrev s_Without_init : Stmt := inClass (top 4) 0
abbrev s_Without_entries : Stmt := inClass (top 4) 1
abbrev s_With_init : Stmt := inClass (top 5) 0
abbrev s_With_entries : Stmt := inClass (top 5) 1
abbrev s_change_of : Stmt := top 7
abbrev s_is_integer : Stmt := top 19
abbrev s_is_number : Stmt := top 20
abbrev s_is_name : Stmt := top 21
abbrev s_is_pair : Stmt := top 22
abbrev s_is_range : Stmt := top 23
abbrev s_is_kind : Stmt := top 24
abbrev s_rises : Stmt := top 25
abbrev s_is_named_rows : Stmt := top 26
abbrev s_is_form : Stmt := top 27
abbrev s_form_of : Stmt := top 28
abbrev s_kind_of : Stmt := top 29
abbrev s_path_kind : Stmt := top 35
abbrev s_is_total : Stmt := top 36
abbrev s_is_worded : Stmt := top 37
abbrev s_choice_parts : Stmt := top 38
abbrev s_number_parts : Stmt := top 39
abbrev s_condition_parts : Stmt := top 40
abbrev s_link_parts : Stmt := top 41
abbrev s_fitting_parts : Stmt := top 42
abbrev s_lets_expression : Stmt := top 43
abbrev s_fits : Stmt := top 44
abbrev s_computed : Stmt := top 46
abbrev s_Evaluator_look : Stmt := inClass (top 47) 0
abbrev s_Evaluator_members : Stmt := inClass (top 47) 1
abbrev s_Evaluator_holder : Stmt := inClass (top 47) 2
abbrev s_Evaluator_led_to : Stmt := inClass (top 47) 3
abbrev s_Evaluator_amount : Stmt := inClass (top 47) 4
abbrev s_Evaluator_summed : Stmt := inClass (top 47) 5
abbrev s_Evaluator_holds : Stmt := inClass (top 47) 6
abbrev s_Evaluator_link : Stmt := inClass (top 47) 7
abbrev s_PlainEvaluator_init : Stmt := inClass (top 48) 0
abbrev s_PlainEvaluator_look : Stmt := inClass (top 48) 1
abbrev s_PlainEvaluator_members : Stmt := inClass (top 48) 2
abbrev s_require_object : Stmt := top 50
abbrev s_number_at : Stmt := top 51
abbrev s_link_at : Stmt := top 52
abbrev s_require_change : Stmt := top 54
abbrev s_has_change_shape : Stmt := top 55
abbrev s_check_classes : Stmt := top 56
abbrev s_check_links : Stmt := top 57
abbrev s_check_fits : Stmt := top 58
abbrev s_lets_change : Stmt := top 59
abbrev s_is_change : Stmt := top 60
abbrev s_schema_after : Stmt := top 61
abbrev s_value_for : Stmt := top 62
abbrev s_changed : Stmt := top 63
abbrev s_require_step : Stmt := top 65
abbrev s_is_value : Stmt := top 66
abbrev s_made : Stmt := top 67
abbrev s_law_feed : Stmt := top 69
abbrev s_law_draw : Stmt := top 70
abbrev s_law_laps : Stmt := top 71
abbrev s_law_any : Stmt := top 72
abbrev s_law_lot : Stmt := top 73
abbrev s_law_classes : Stmt := top 74
abbrev s_law_fitting : Stmt := top 75
abbrev s_law_values : Stmt := top 76
abbrev s_law_house : Stmt := top 77
abbrev s_law_column : Stmt := top 78
abbrev s_law_by : Stmt := top 79
abbrev s_law_field_right : Stmt := top 80
abbrev s_law_given_right : Stmt := top 81
abbrev s_law_kept_right : Stmt := top 82
abbrev s_law : Stmt := top 83
theorem sc_kept_expression : FnScope ["field", "kind"] ["field", "kind"] (defScope s_kept_expression) := ⟨rfl, rfl, rfl, by decide +kernel, rfl, by decide +kernel, by decide +kernel⟩
theorem bn_kept_expression : Bnd1 "kept_expression" "kept_expression" s_kept_expression ["field", "kind"] := fun _ _ _ _ _ _ us hl => match us, hl with | [_, _], _ => rfl
theorem sc_Kept_init : FnScope ["self", "form"] ["self", "form"] (defScope s_Kept_init) := ⟨rfl, rfl, rfl, by decide +kernel, rfl, by decide +kernel, by decide +kernel⟩
theorem bn_Kept_init : Bnd1 "__init__" "Kept.__init__" s_Kept_init ["self", "form"] := fun _ _ _ _ _ _ us hl => match us, hl with | [_, _], _ => rfl
theorem sc_Kept_entries : FnScope ["self", "field", "kind"] ["self"] (defScope s_Kept_entries) := ⟨rfl, rfl, rfl, by decide +kernel, rfl, by decide +kernel, by decide +kernel⟩
theorem bn_Kept_entries : Bnd1 "entries" "Kept.entries" s_Kept_entries ["self"] := fun _ _ _ _ _ _ us hl => match us, hl with | [_], _ => rfl
theorem sc_Kept_form : FnScope ["self", "known", "field"] ["self"] (defScope s_Kept_form) := ⟨rfl, rfl, rfl, by decide +kernel, rfl, by decide +kernel, by decide +kernel⟩
theorem bn_Kept_form : Bnd1 "form" "Kept.form" s_Kept_form ["self"] := fun _ _ _ _ _ _ us hl => match us, hl with | [_], _ => rfl
theorem sc_Kept_expressions : FnScope ["self", "known", "field"] ["self"] (defScope s_Kept_expressions) := ⟨rfl, rfl, rfl, by decide +kernel, rfl, by decide +kernel, by decide +kernel⟩
theorem bn_Kept_expressions : Bnd1 "expressions" "Kept.expressions" s_Kept_expressions ["self"] := fun _ _ _ _ _ _ us hl => match us, hl with | [_], _ => rfl
theorem sc_Kept_row_of : FnScope ["self", "cls"] ["self", "cls"] (defScope s_Kept_row_of) := ⟨rfl, rfl, rfl, by decide +kernel, rfl, by decide +kernel, by decide +kernel⟩
theorem bn_Kept_row_of : Bnd1 "row_of" "Kept.row_of" s_Kept_row_of ["self", "cls"] := fun _ _ _ _ _ _ us hl => match us, hl with | [_, _], _ => rfl
theorem sc_Kept_eq : FnScope ["self", "other"] ["self", "other"] (defScope s_Kept_eq) := ⟨rfl, rfl, rfl, by decide +kernel, rfl, by decide +kernel, by decide +kernel⟩
theorem bn_Kept_eq : Bnd1 "__eq__" "Kept.__eq__" s_Kept_eq ["self", "other"] := fun _ _ _ _ _ _ us hl => match us, hl with | [_, _], _ => rfl
theorem sc_change_of : FnScope ["rows", "found", "cls", "own"] ["rows"] (defScope s_change_of) := ⟨rfl, rfl, rfl, by decide +kernel, rfl, by decide +kernel, by decide +kernel⟩
theorem sc_is_integer : FnScope ["thing"] ["thing"] (defScope s_is_integer) := ⟨rfl, rfl, rfl, by decide +kernel, rfl, by decide +kernel, by decide +kernel⟩
theorem bn_is_integer : Bnd1 "is_integer" "is_integer" s_is_integer ["thing"] := fun _ _ _ _ _ _ us hl => match us, hl with | [_], _ => rfl
theorem sc_is_number : FnScope ["thing"] ["thing"] (defScope s_is_number) := ⟨rfl, rfl, rfl, by decide +kernel, rfl, by decide +kernel, by decide +kernel⟩
theorem bn_is_number : Bnd1 "is_number" "is_number" s_is_number ["thing"] := fun _ _ _ _ _ _ us hl => match us, hl with | [_], _ => rfl
theorem sc_is_name : FnScope ["thing", "sign"] ["thing"] (defScope s_is_name) := ⟨rfl, rfl, rfl, by decide +kernel, rfl, by decide +kernel, by decide +kernel⟩
theorem bn_is_name : Bnd1 "is_name" "is_name" s_is_name ["thing"] := fun _ _ _ _ _ _ us hl => match us, hl with | [_], _ => rfl
theorem sc_is_pair : FnScope ["thing", "first", "second"] ["thing", "first", "second"] (defScope s_is_pair) := ⟨rfl, rfl, rfl, by decide +kernel, rfl, by decide +kernel, by decide +kernel⟩
theorem bn_is_pair : Bnd1 "is_pair" "is_pair" s_is_pair ["thing", "first", "second"] := fun _ _ _ _ _ _ us hl => match us, hl with | [_, _, _], _ => rfl
theorem sc_is_range : FnScope ["thing"] ["thing"] (defScope s_is_range) := ⟨rfl, rfl, rfl, by decide +kernel, rfl, by decide +kernel, by decide +kernel⟩
theorem bn_is_range : Bnd1 "is_range" "is_range" s_is_range ["thing"] := fun _ _ _ _ _ _ us hl => match us, hl with | [_], _ => rfl
theorem sc_is_kind : FnScope ["thing"] ["thing"] (defScope s_is_kind) := ⟨rfl, rfl, rfl, by decide +kernel, rfl, by decide +kernel, by decide +kernel⟩
theorem bn_is_kind : Bnd1 "is_kind" "is_kind" s_is_kind ["thing"] := fun _ _ _ _ _ _ us hl => match us, hl with | [_], _ => rfl
theorem sc_rises : FnScope ["names", "one", "other"] ["names"] (defScope s_rises) := ⟨rfl, rfl, rfl, by decide +kernel, rfl, by decide +kernel, by decide +kernel⟩
theorem bn_rises : Bnd1 "rises" "rises" s_rises ["names"] := fun _ _ _ _ _ _ us hl => match us, hl with | [_], _ => rfl
theorem sc_is_named_rows : FnScope ["thing", "check", "own"] ["thing", "check"] (defScope s_is_named_rows) := ⟨rfl, rfl, rfl, by decide +kernel, rfl, by decide +kernel, by decide +kernel⟩
theorem bn_is_named_rows : Bnd1 "is_named_rows" "is_named_rows" s_is_named_rows ["thing", "check"] := fun _ _ _ _ _ _ us hl => match us, hl with | [_, _], _ => rfl
theorem sc_is_form : FnScope ["thing"] ["thing"] (defScope s_is_form) := ⟨rfl, rfl, rfl, by decide +kernel, rfl, by decide +kernel, by decide +kernel⟩
theorem bn_is_form : Bnd1 "is_form" "is_form" s_is_form ["thing"] := fun _ _ _ _ _ _ us hl => match us, hl with | [_], _ => rfl
theorem sc_form_of : FnScope ["schema", "cls", "own", "form"] ["schema", "cls"] (defScope s_form_of) := ⟨rfl, rfl, rfl, by decide +kernel, rfl, by decide +kernel, by decide +kernel⟩
theorem bn_form_of : Bnd1 "form_of" "form_of" s_form_of ["schema", "cls"] := fun _ _ _ _ _ _ us hl => match us, hl with | [_, _], _ => rfl
theorem sc_kind_of : FnScope ["form", "field", "own", "kind"] ["form", "field"] (defScope s_kind_of) := ⟨rfl, rfl, rfl, by decide +kernel, rfl, by decide +kernel, by decide +kernel⟩
theorem bn_kind_of : Bnd1 "kind_of" "kind_of" s_kind_of ["form", "field"] := fun _ _ _ _ _ _ us hl => match us, hl with | [_, _], _ => rfl
theorem sc_path_kind : FnScope ["schema", "cls", "path", "kind", "field", "form"] ["schema", "cls", "path"] (defScope s_path_kind) := ⟨rfl, rfl, rfl, by decide +kernel, rfl, by decide +kernel, by decide +kernel⟩
theorem bn_path_kind : Bnd1 "path_kind" "path_kind" s_path_kind ["schema", "cls", "path"] := fun _ _ _ _ _ _ us hl => match us, hl with | [_, _, _], _ => rfl
theorem sc_is_total : FnScope ["schema", "cls", "parts", "form", "own"] ["schema", "cls", "parts"] (defScope s_is_total) := ⟨rfl, rfl, rfl, by decide +kernel, rfl, by decide +kernel, by decide +kernel⟩
theorem bn_is_total : Bnd1 "is_total" "is_total" s_is_total ["schema", "cls", "parts"] := fun _ _ _ _ _ _ us hl => match us, hl with | [_, _, _], _ => rfl
theorem sc_is_worded : FnScope ["thing", "words", "many"] ["thing", "words", "many"] (defScope s_is_worded) := ⟨rfl, rfl, rfl, by decide +kernel, rfl, by decide +kernel, by decide +kernel⟩
theorem bn_is_worded : Bnd1 "is_worded" "is_worded" s_is_worded ["thing", "words", "many"] := fun _ _ _ _ _ _ us hl => match us, hl with | [_, _, _], _ => rfl
theorem sc_choice_parts : FnScope ["kind"] ["kind"] (defScope s_choice_parts) := ⟨rfl, rfl, rfl, by decide +kernel, rfl, by decide +kernel, by decide +kernel⟩
theorem bn_choice_parts : Bnd1 "choice_parts" "choice_parts" s_choice_parts ["kind"] := fun _ _ _ _ _ _ us hl => match us, hl with | [_], _ => rfl
theorem sc_number_parts : FnScope ["schema", "cls", "thing"] ["schema", "cls", "thing"] (defScope s_number_parts) := ⟨rfl, rfl, rfl, by decide +kernel, rfl, by decide +kernel, by decide +kernel⟩
theorem bn_number_parts : Bnd1 "number_parts" "number_parts" s_number_parts ["schema", "cls", "thing"] := fun _ _ _ _ _ _ us hl => match us, hl with | [_, _, _], _ => rfl
theorem sc_condition_parts : FnScope ["schema", "cls", "thing"] ["schema", "cls", "thing"] (defScope s_condition_parts) := ⟨rfl, rfl, rfl, by decide +kernel, rfl, by decide +kernel, by decide +kernel⟩
theorem bn_condition_parts : Bnd1 "condition_parts" "condition_parts" s_condition_parts ["schema", "cls", "thing"] := fun _ _ _ _ _ _ us hl => match us, hl with | [_, _, _], _ => rfl
theorem sc_link_parts : FnScope ["schema", "cls", "kind", "thing"] ["schema", "cls", "kind", "thing"] (defScope s_link_parts) := ⟨rfl, rfl, rfl, by decide +kernel, rfl, by decide +kernel, by decide +kernel⟩
theorem bn_link_parts : Bnd1 "link_parts" "link_parts" s_link_parts ["schema", "cls", "kind", "thing"] := fun _ _ _ _ _ _ us hl => match us, hl with | [_, _, _, _], _ => rfl
theorem sc_fitting_parts : FnScope ["schema", "cls", "kind", "thing"] ["schema", "cls", "kind", "thing"] (defScope s_fitting_parts) := ⟨rfl, rfl, rfl, by decide +kernel, rfl, by decide +kernel, by decide +kernel⟩
theorem bn_fitting_parts : Bnd1 "fitting_parts" "fitting_parts" s_fitting_parts ["schema", "cls", "kind", "thing"] := fun _ _ _ _ _ _ us hl => match us, hl with | [_, _, _, _], _ => rfl
theorem sc_lets_expression : FnScope ["schema", "cls", "kind", "thing", "left", "many", "place", "due", "part", "found", "k", "own"] ["schema", "cls", "kind", "thing"] (defScope s_lets_expression) := ⟨rfl, rfl, rfl, by decide +kernel, rfl, by decide +kernel, by decide +kernel⟩
theorem bn_lets_expression : Bnd1 "lets_expression" "lets_expression" s_lets_expression ["schema", "cls", "kind", "thing"] := fun _ _ _ _ _ _ us hl => match us, hl with | [_, _, _, _], _ => rfl
theorem sc_fits : FnScope ["schema", "cls", "kind", "thing"] ["schema", "cls", "kind", "thing"] (defScope s_fits) := ⟨rfl, rfl, rfl, by decide +kernel, rfl, by decide +kernel, by decide +kernel⟩
theorem bn_fits : Bnd1 "fits" "fits" s_fits ["schema", "cls", "kind", "thing"] := fun _ _ _ _ _ _ us hl => match us, hl with | [_, _, _, _], _ => rfl
theorem sc_computed : FnScope ["word", "one", "other"] ["word", "one", "other"] (defScope s_computed) := ⟨rfl, rfl, rfl, by decide +kernel, rfl, by decide +kernel, by decide +kernel⟩
theorem bn_computed : Bnd1 "computed" "computed" s_computed ["word", "one", "other"] := fun _ _ _ _ _ _ us hl => match us, hl with | [_, _, _], _ => rfl
theorem sc_Evaluator_look : FnScope ["self", "number", "field"] ["self", "number", "field"] (defScope s_Evaluator_look) := ⟨rfl, rfl, rfl, by decide +kernel, rfl, by decide +kernel, by decide +kernel⟩
theorem bn_Evaluator_look : Bnd1 "look" "Evaluator.look" s_Evaluator_look ["self", "number", "field"] := fun _ _ _ _ _ _ us hl => match us, hl with | [_, _, _], _ => rfl
theorem sc_Evaluator_members : FnScope ["self", "cls"] ["self", "cls"] (defScope s_Evaluator_members) := ⟨rfl, rfl, rfl, by decide +kernel, rfl, by decide +kernel, by decide +kernel⟩
theorem bn_Evaluator_members : Bnd1 "members" "Evaluator.members" s_Evaluator_members ["self", "cls"] := fun _ _ _ _ _ _ us hl => match us, hl with | [_, _], _ => rfl
theorem sc_Evaluator_holder : FnScope ["self", "own", "path", "here", "field"] ["self", "own", "path"] (defScope s_Evaluator_holder) := ⟨rfl, rfl, rfl, by decide +kernel, rfl, by decide +kernel, by decide +kernel⟩
theorem bn_Evaluator_holder : Bnd1 "holder" "Evaluator.holder" s_Evaluator_holder ["self", "own", "path"] := fun _ _ _ _ _ _ us hl => match us, hl with | [_, _, _], _ => rfl
theorem sc_Evaluator_led_to : FnScope ["self", "own", "path", "here"] ["self", "own", "path"] (defScope s_Evaluator_led_to) := ⟨rfl, rfl, rfl, by decide +kernel, rfl, by decide +kernel, by decide +kernel⟩
theorem bn_Evaluator_led_to : Bnd1 "led_to" "Evaluator.led_to" s_Evaluator_led_to ["self", "own", "path"] := fun _ _ _ _ _ _ us hl => match us, hl with | [_, _, _], _ => rfl
theorem sc_Evaluator_amount : FnScope ["self", "own", "expression", "word", "parts", "here", "one"] ["self", "own", "expression"] (defScope s_Evaluator_amount) := ⟨rfl, rfl, rfl, by decide +kernel, rfl, by decide +kernel, by decide +kernel⟩
theorem bn_Evaluator_amount : Bnd1 "amount" "Evaluator.amount" s_Evaluator_amount ["self", "own", "expression"] := fun _ _ _ _ _ _ us hl => match us, hl with | [_, _, _], _ => rfl
theorem sc_Evaluator_summed : FnScope ["self", "own", "parts", "cls", "link", "field", "found", "number"] ["self", "own", "parts"] (defScope s_Evaluator_summed) := ⟨rfl, rfl, rfl, by decide +kernel, rfl, by decide +kernel, by decide +kernel⟩
theorem bn_Evaluator_summed : Bnd1 "summed" "Evaluator.summed" s_Evaluator_summed ["self", "own", "parts"] := fun _ _ _ _ _ _ us hl => match us, hl with | [_, _, _], _ => rfl
theorem sc_Evaluator_holds : FnScope ["self", "own", "condition", "word", "parts", "one", "other"] ["self", "own", "condition"] (defScope s_Evaluator_holds) := ⟨rfl, rfl, rfl, by decide +kernel, rfl, by decide +kernel, by decide +kernel⟩
theorem bn_Evaluator_holds : Bnd1 "holds" "Evaluator.holds" s_Evaluator_holds ["self", "own", "condition"] := fun _ _ _ _ _ _ us hl => match us, hl with | [_, _, _], _ => rfl
theorem sc_Evaluator_link : FnScope ["self", "own", "expression", "word", "parts"] ["self", "own", "expression"] (defScope s_Evaluator_link) := ⟨rfl, rfl, rfl, by decide +kernel, rfl, by decide +kernel, by decide +kernel⟩
theorem bn_Evaluator_link : Bnd1 "link" "Evaluator.link" s_Evaluator_link ["self", "own", "expression"] := fun _ _ _ _ _ _ us hl => match us, hl with | [_, _, _], _ => rfl
theorem sc_PlainEvaluator_init : FnScope ["self", "plain", "schema", "limit", "objects", "number", "cls", "values", "own", "value"] ["self", "plain"] (defScope s_PlainEvaluator_init) := ⟨rfl, rfl, rfl, by decide +kernel, rfl, by decide +kernel, by decide +kernel⟩
theorem bn_PlainEvaluator_init : Bnd1 "__init__" "PlainEvaluator.__init__" s_PlainEvaluator_init ["self", "plain"] := fun _ _ _ _ _ _ us hl => match us, hl with | [_, _], _ => rfl
theorem sc_PlainEvaluator_look : FnScope ["self", "number", "field"] ["self", "number", "field"] (defScope s_PlainEvaluator_look) := ⟨rfl, rfl, rfl, by decide +kernel, rfl, by decide +kernel, by decide +kernel⟩
theorem bn_PlainEvaluator_look : Bnd1 "look" "PlainEvaluator.look" s_PlainEvaluator_look ["self", "number", "field"] := fun _ _ _ _ _ _ us hl => match us, hl with | [_, _, _], _ => rfl
theorem sc_PlainEvaluator_members : FnScope ["self", "cls", "number"] ["self", "cls"] (defScope s_PlainEvaluator_members) := ⟨rfl, rfl, rfl, by decide +kernel, rfl, by decide +kernel, by decide +kernel⟩
theorem bn_PlainEvaluator_members : Bnd1 "members" "PlainEvaluator.members" s_PlainEvaluator_members ["self", "cls"] := fun _ _ _ _ _ _ us hl => match us, hl with | [_, _], _ => rfl
theorem sc_require_object : FnScope ["plain", "number", "own"] ["plain", "number"] (defScope s_require_object) := ⟨rfl, rfl, rfl, by decide +kernel, rfl, by decide +kernel, by decide +kernel⟩
theorem bn_require_object : Bnd1 "require_object" "require_object" s_require_object ["plain", "number"] := fun _ _ _ _ _ _ us hl => match us, hl with | [_, _], _ => rfl
theorem sc_number_at : FnScope ["plain", "number", "expression"] ["plain", "number", "expression"] (defScope s_number_at) := ⟨rfl, rfl, rfl, by decide +kernel, rfl, by decide +kernel, by decide +kernel⟩
theorem bn_number_at : Bnd1 "number_at" "number_at" s_number_at ["plain", "number", "expression"] := fun _ _ _ _ _ _ us hl => match us, hl with | [_, _, _], _ => rfl
theorem sc_link_at : FnScope ["plain", "number", "expression"] ["plain", "number", "expression"] (defScope s_link_at) := ⟨rfl, rfl, rfl, by decide +kernel, rfl, by decide +kernel, by decide +kernel⟩
theorem bn_link_at : Bnd1 "link_at" "link_at" s_link_at ["plain", "number", "expression"] := fun _ _ _ _ _ _ us hl => match us, hl with | [_, _, _], _ => rfl
theorem sc_require_change : FnScope ["truth", "word", "at"] ["truth", "word", "at"] (defScope s_require_change) := ⟨rfl, rfl, rfl, by decide +kernel, rfl, by decide +kernel, by decide +kernel⟩
theorem bn_require_change : Bnd1 "require_change" "require_change" s_require_change ["truth", "word", "at"] := fun _ _ _ _ _ _ us hl => match us, hl with | [_, _, _], _ => rfl
theorem sc_has_change_shape : FnScope ["thing", "cls", "form", "expressions", "row"] ["thing"] (defScope s_has_change_shape) := ⟨rfl, rfl, rfl, by decide +kernel, rfl, by decide +kernel, by decide +kernel⟩
theorem bn_has_change_shape : Bnd1 "has_change_shape" "has_change_shape" s_has_change_shape ["thing"] := fun _ _ _ _ _ _ us hl => match us, hl with | [_], _ => rfl
theorem sc_check_classes : FnScope ["schema", "rows", "known", "k", "cls", "form", "expressions"] ["schema", "rows"] (defScope s_check_classes) := ⟨rfl, rfl, rfl, by decide +kernel, rfl, by decide +kernel, by decide +kernel⟩
theorem bn_check_classes : Bnd1 "check_classes" "check_classes" s_check_classes ["schema", "rows"] := fun _ _ _ _ _ _ us hl => match us, hl with | [_, _], _ => rfl
theorem sc_check_links : FnScope ["schema", "rows", "classes", "k", "cls", "form", "expressions", "f", "field", "kind", "row"] ["schema", "rows"] (defScope s_check_links) := ⟨rfl, rfl, rfl, by decide +kernel, rfl, by decide +kernel, by decide +kernel⟩
theorem bn_check_links : Bnd1 "check_links" "check_links" s_check_links ["schema", "rows"] := fun _ _ _ _ _ _ us hl => match us, hl with | [_, _], _ => rfl
theorem sc_check_fits : FnScope ["schema", "rows", "k", "cls", "form", "expressions", "f", "expression"] ["schema", "rows"] (defScope s_check_fits) := ⟨rfl, rfl, rfl, by decide +kernel, rfl, by decide +kernel, by decide +kernel⟩
theorem bn_check_fits : Bnd1 "check_fits" "check_fits" s_check_fits ["schema", "rows"] := fun _ _ _ _ _ _ us hl => match us, hl with | [_, _], _ => rfl
theorem sc_lets_change : FnScope ["schema", "thing", "row"] ["schema", "thing"] (defScope s_lets_change) := ⟨rfl, rfl, rfl, by decide +kernel, rfl, by decide +kernel, by decide +kernel⟩
theorem bn_lets_change : Bnd1 "lets_change" "lets_change" s_lets_change ["schema", "thing"] := fun _ _ _ _ _ _ us hl => match us, hl with | [_, _], _ => rfl
theorem sc_is_change : FnScope ["schema", "thing"] ["schema", "thing"] (defScope s_is_change) := ⟨rfl, rfl, rfl, by decide +kernel, rfl, by decide +kernel, by decide +kernel⟩
theorem bn_is_change : Bnd1 "is_change" "is_change" s_is_change ["schema", "thing"] := fun _ _ _ _ _ _ us hl => match us, hl with | [_, _], _ => rfl
theorem sc_schema_after : FnScope ["schema", "change", "known", "cls", "form", "expressions"] ["schema", "change"] (defScope s_schema_after) := ⟨rfl, rfl, rfl, by decide +kernel, rfl, by decide +kernel, by decide +kernel⟩
theorem bn_schema_after : Bnd1 "schema_after" "schema_after" s_schema_after ["schema", "change"] := fun _ _ _ _ _ _ us hl => match us, hl with | [_, _], _ => rfl
theorem sc_value_for : FnScope ["plain", "number", "kind", "expression"] ["plain", "number", "kind", "expression"] (defScope s_value_for) := ⟨rfl, rfl, rfl, by decide +kernel, rfl, by decide +kernel, by decide +kernel⟩
theorem bn_value_for : Bnd1 "value_for" "value_for" s_value_for ["plain", "number", "kind", "expression"] := fun _ _ _ _ _ _ us hl => match us, hl with | [_, _, _, _], _ => rfl
theorem sc_changed : FnScope ["plain", "thing", "schema", "following", "objects", "rows", "found", "number", "cls", "values", "own", "form", "expressions", "pairs", "row", "one", "field", "kind"] ["plain", "thing"] (defScope s_changed) := ⟨rfl, rfl, rfl, by decide +kernel, rfl, by decide +kernel, by decide +kernel⟩
theorem bn_changed : Bnd1 "changed" "changed" s_changed ["plain", "thing"] := fun _ _ _ _ _ _ us hl => match us, hl with | [_, _], _ => rfl
theorem sc_require_step : FnScope ["truth", "step", "word"] ["truth", "step", "word"] (defScope s_require_step) := ⟨rfl, rfl, rfl, by decide +kernel, rfl, by decide +kernel, by decide +kernel⟩
theorem bn_require_step : Bnd1 "require_step" "require_step" s_require_step ["truth", "step", "word"] := fun _ _ _ _ _ _ us hl => match us, hl with | [_, _, _], _ => rfl
theorem sc_is_value : FnScope ["plain", "kind", "thing", "one"] ["plain", "kind", "thing"] (defScope s_is_value) := ⟨rfl, rfl, rfl, by decide +kernel, rfl, by decide +kernel, by decide +kernel⟩
theorem bn_is_value : Bnd1 "is_value" "is_value" s_is_value ["plain", "kind", "thing"] := fun _ _ _ _ _ _ us hl => match us, hl with | [_, _, _], _ => rfl
theorem sc_made : FnScope ["plain", "cls", "values", "schema", "following", "objects", "step", "forms", "form", "good", "one", "field", "kind"] ["plain", "cls", "values"] (defScope s_made) := ⟨rfl, rfl, rfl, by decide +kernel, rfl, by decide +kernel, by decide +kernel⟩
theorem sc_law_feed : FnScope ["_law_script"] ["_law_script"] (defScope s_law_feed) := ⟨rfl, rfl, rfl, by decide +kernel, rfl, by decide +kernel, by decide +kernel⟩
theorem bn_law_feed : Bnd1 "_law_feed" "_law_feed" s_law_feed ["_law_script"] := fun _ _ _ _ _ _ us hl => match us, hl with | [_], _ => rfl
theorem sc_law_draw : FnScope ["_law_feed_here", "_law_many", "_law_digit", "_law_at", "_law_cell", "_law_mixed"] ["_law_feed_here", "_law_many"] (defScope s_law_draw) := ⟨rfl, rfl, rfl, by decide +kernel, rfl, by decide +kernel, by decide +kernel⟩
theorem bn_law_draw : Bnd1 "_law_draw" "_law_draw" s_law_draw ["_law_feed_here", "_law_many"] := fun _ _ _ _ _ _ us hl => match us, hl with | [_, _], _ => rfl
theorem sc_law_laps : FnScope ["_law_script", "_law_count"] ["_law_script", "_law_count"] (defScope s_law_laps) := ⟨rfl, rfl, rfl, by decide +kernel, rfl, by decide +kernel, by decide +kernel⟩
theorem bn_law_laps : Bnd1 "_law_laps" "_law_laps" s_law_laps ["_law_script", "_law_count"] := fun _ _ _ _ _ _ us hl => match us, hl with | [_, _], _ => rfl
theorem sc_law_any : FnScope ["_law_feed_here", "_law_some"] ["_law_feed_here", "_law_some"] (defScope s_law_any) := ⟨rfl, rfl, rfl, by decide +kernel, rfl, by decide +kernel, by decide +kernel⟩
theorem bn_law_any : Bnd1 "_law_any" "_law_any" s_law_any ["_law_feed_here", "_law_some"] := fun _ _ _ _ _ _ us hl => match us, hl with | [_, _], _ => rfl
theorem sc_law_lot : FnScope ["_law_feed_here", "_law_names", "_law_found", "_law_label", "_law_which"] ["_law_feed_here", "_law_names"] (defScope s_law_lot) := ⟨rfl, rfl, rfl, by decide +kernel, rfl, by decide +kernel, by decide +kernel⟩
theorem bn_law_lot : Bnd1 "_law_lot" "_law_lot" s_law_lot ["_law_feed_here", "_law_names"] := fun _ _ _ _ _ _ us hl => match us, hl with | [_, _], _ => rfl
theorem sc_law_classes : FnScope ["_law_feed_here", "_law_names", "_law_own"] ["_law_feed_here"] (defScope s_law_classes) := ⟨rfl, rfl, rfl, by decide +kernel, rfl, by decide +kernel, by decide +kernel⟩
theorem bn_law_classes : Bnd1 "_law_classes" "_law_classes" s_law_classes ["_law_feed_here"] := fun _ _ _ _ _ _ us hl => match us, hl with | [_], _ => rfl
theorem sc_law_fitting : FnScope ["_law_feed_here", "_law_sort", "_law_members", "_law_n", "_law_own"] ["_law_feed_here", "_law_sort", "_law_members"] (defScope s_law_fitting) := ⟨rfl, rfl, rfl, by decide +kernel, rfl, by decide +kernel, by decide +kernel⟩
theorem bn_law_fitting : Bnd1 "_law_fitting" "_law_fitting" s_law_fitting ["_law_feed_here", "_law_sort", "_law_members"] := fun _ _ _ _ _ _ us hl => match us, hl with | [_, _, _], _ => rfl
theorem sc_law_values : FnScope ["_law_feed_here", "_law_lot_here", "_law_members", "_law_label", "_law_sort"] ["_law_feed_here", "_law_lot_here", "_law_members"] (defScope s_law_values) := ⟨rfl, rfl, rfl, by decide +kernel, rfl, by decide +kernel, by decide +kernel⟩
theorem bn_law_values : Bnd1 "_law_values" "_law_values" s_law_values ["_law_feed_here", "_law_lot_here", "_law_members"] := fun _ _ _ _ _ _ us hl => match us, hl with | [_, _, _], _ => rfl
theorem sc_law_house : FnScope ["_law_feed_here", "_law_classes_here", "_law_most", "_law_names", "_law_count", "_law_members", "_law_things", "_law_n", "_law_own", "_law_lot_here"] ["_law_feed_here", "_law_classes_here", "_law_most"] (defScope s_law_house) := ⟨rfl, rfl, rfl, by decide +kernel, rfl, by decide +kernel, by decide +kernel⟩
theorem bn_law_house : Bnd1 "_law_house" "_law_house" s_law_house ["_law_feed_here", "_law_classes_here", "_law_most"] := fun _ _ _ _ _ _ us hl => match us, hl with | [_, _, _], _ => rfl
theorem sc_law_column : FnScope ["_law_house_here", "_law_own", "_law_label", "_law_at", "_law_n", "_law_some", "_law_lots", "_law_sort"] ["_law_house_here", "_law_own", "_law_label"] (defScope s_law_column) := ⟨rfl, rfl, rfl, by decide +kernel, rfl, by decide +kernel, by decide +kernel⟩
theorem bn_law_column : Bnd1 "_law_column" "_law_column" s_law_column ["_law_house_here", "_law_own", "_law_label"] := fun _ _ _ _ _ _ us hl => match us, hl with | [_, _, _], _ => rfl
theorem sc_law_by : FnScope ["_law_house_here", "_law_own", "_law_conversion", "_law_rows"] ["_law_house_here", "_law_own", "_law_conversion"] (defScope s_law_by) := ⟨rfl, rfl, rfl, by decide +kernel, rfl, by decide +kernel, by decide +kernel⟩
theorem bn_law_by : Bnd1 "_law_by" "_law_by" s_law_by ["_law_house_here", "_law_own", "_law_conversion"] := fun _ _ _ _ _ _ us hl => match us, hl with | [_, _, _], _ => rfl
theorem sc_law_field_right : FnScope ["_law_house_here", "_law_own", "_law_label", "_law_lot_here", "_law_once", "_law_others", "_law_thin", "_law_some", "_law_sort", "_law_one"] ["_law_house_here", "_law_own", "_law_label"] (defScope s_law_field_right) := ⟨rfl, rfl, rfl, by decide +kernel, rfl, by decide +kernel, by decide +kernel⟩
theorem bn_law_field_right : Bnd1 "_law_field_right" "_law_field_right" s_law_field_right ["_law_house_here", "_law_own", "_law_label"] := fun _ _ _ _ _ _ us hl => match us, hl with | [_, _, _], _ => rfl
theorem sc_law_given_right : FnScope ["_law_feed_here", "_law_house_here", "_law_own", "_law_lot_here", "_law_worth", "_law_later", "_law_many", "_law_elder", "_law_both", "_law_due", "_law_label", "_law_sort", "_law_again", "_law_found", "_law_n", "_law_some", "_law_lots"] ["_law_feed_here", "_law_house_here", "_law_own"] (defScope s_law_given_right) := ⟨rfl, rfl, rfl, by decide +kernel, rfl, by decide +kernel, by decide +kernel⟩
theorem bn_law_given_right : Bnd1 "_law_given_right" "_law_given_right" s_law_given_right ["_law_feed_here", "_law_house_here", "_law_own"] := fun _ _ _ _ _ _ us hl => match us, hl with | [_, _, _], _ => rfl
theorem sc_law_kept_right : FnScope ["_law_house_here", "_law_own", "_law_lot_here", "_law_one", "_law_late", "_law_thin"] ["_law_house_here", "_law_own"] (defScope s_law_kept_right) := ⟨rfl, rfl, rfl, by decide +kernel, rfl, by decide +kernel, by decide +kernel⟩
theorem bn_law_kept_right : Bnd1 "_law_kept_right" "_law_kept_right" s_law_kept_right ["_law_house_here", "_law_own"] := fun _ _ _ _ _ _ us hl => match us, hl with | [_, _], _ => rfl
theorem sc_law : FnScope ["_law_script", "_law_feed_here", "_law_lap", "_law_classes_here", "_law_house_here", "_law_own", "_law_lot_here", "_law_fresh", "_law_later", "_law_label", "_law_sort"] ["_law_script"] (defScope s_law) := ⟨rfl, rfl, rfl, by decide +kernel, rfl, by decide +kernel, by decide +kernel⟩
theorem bn_law : Bnd1 "law" "law" s_law ["_law_script"] := fun _ _ _ _ _ _ us hl => match us, hl with | [_], _ => rfl
/-- what the top has left of the defs -/
structure Tx (K : Fg) (mg : Str → Option Value) : Prop where
  d_kept_expression : Df K (He.ga K "kept_expression") "kept_expression" "kept_expression" s_kept_expression
  g_kept_expression : mg "kept_expression" = some (.ref (He.ga K "kept_expression"))
  d_Kept_init : Df K (He.ma K (He.ga K "Kept") "__init__") "__init__" "Kept.__init__" s_Kept_init
  d_Kept_entries : Df K (He.ma K (He.ga K "Kept") "entries") "entries" "Kept.entries" s_Kept_entries
  d_Kept_row_of : Df K (He.ma K (He.ga K "Kept") "row_of") "row_of" "Kept.row_of" s_Kept_row_of
  d_Kept_eq : Df K (He.ma K (He.ga K "Kept") "__eq__") "__eq__" "Kept.__eq__" s_Kept_eq
  d_change_of : Df K (He.ga K "change_of") "change_of" "change_of" s_change_of
  g_change_of : mg "change_of" = some (.ref (He.ga K "change_of"))
  d_is_integer : Df K (He.ga K "is_integer") "is_integer" "is_integer" s_is_integer
  g_is_integer : mg "is_integer" = some (.ref (He.ga K "is_integer"))
  d_is_number : Df K (He.ga K "is_number") "is_number" "is_number" s_is_number
  g_is_number : mg "is_number" = some (.ref (He.ga K "is_number"))
  d_is_name : Df K (He.ga K "is_name") "is_name" "is_name" s_is_name
  g_is_name : mg "is_name" = some (.ref (He.ga K "is_name"))
  d_is_pair : Df K (He.ga K "is_pair") "is_pair" "is_pair" s_is_pair
  g_is_pair : mg "is_pair" = some (.ref (He.ga K "is_pair"))
  d_is_range : Df K (He.ga K "is_range") "is_range" "is_range" s_is_range
  g_is_range : mg "is_range" = some (.ref (He.ga K "is_range"))
  d_is_kind : Df K (He.ga K "is_kind") "is_kind" "is_kind" s_is_kind
  g_is_kind : mg "is_kind" = some (.ref (He.ga K "is_kind"))
  d_rises : Df K (He.ga K "rises") "rises" "rises" s_rises
  g_rises : mg "rises" = some (.ref (He.ga K "rises"))
  d_is_named_rows : Df K (He.ga K "is_named_rows") "is_named_rows" "is_named_rows" s_is_named_rows
  g_is_named_rows : mg "is_named_rows" = some (.ref (He.ga K "is_named_rows"))
  d_is_form : Df K (He.ga K "is_form") "is_form" "is_form" s_is_form
  g_is_form : mg "is_form" = some (.ref (He.ga K "is_form"))
  d_form_of : Df K (He.ga K "form_of") "form_of" "form_of" s_form_of
  g_form_of : mg "form_of" = some (.ref (He.ga K "form_of"))
  d_kind_of : Df K (He.ga K "kind_of") "kind_of" "kind_of" s_kind_of
  g_kind_of : mg "kind_of" = some (.ref (He.ga K "kind_of"))
  d_path_kind : Df K (He.ga K "path_kind") "path_kind" "path_kind" s_path_kind
  g_path_kind : mg "path_kind" = some (.ref (He.ga K "path_kind"))
  d_is_total : Df K (He.ga K "is_total") "is_total" "is_total" s_is_total
  g_is_total : mg "is_total" = some (.ref (He.ga K "is_total"))
  d_is_worded : Df K (He.ga K "is_worded") "is_worded" "is_worded" s_is_worded
  g_is_worded : mg "is_worded" = some (.ref (He.ga K "is_worded"))
  d_choice_parts : Df K (He.ga K "choice_parts") "choice_parts" "choice_parts" s_choice_parts
  g_choice_parts : mg "choice_parts" = some (.ref (He.ga K "choice_parts"))
  d_number_parts : Df K (He.ga K "number_parts") "number_parts" "number_parts" s_number_parts
  g_number_parts : mg "number_parts" = some (.ref (He.ga K "number_parts"))
  d_condition_parts : Df K (He.ga K "condition_parts") "condition_parts" "condition_parts" s_condition_parts
  g_condition_parts : mg "condition_parts" = some (.ref (He.ga K "condition_parts"))
  d_link_parts : Df K (He.ga K "link_parts") "link_parts" "link_parts" s_link_parts
  g_link_parts : mg "link_parts" = some (.ref (He.ga K "link_parts"))
  d_fitting_parts : Df K (He.ga K "fitting_parts") "fitting_parts" "fitting_parts" s_fitting_parts
  g_fitting_parts : mg "fitting_parts" = some (.ref (He.ga K "fitting_parts"))
  d_lets_expression : Df K (He.ga K "lets_expression") "lets_expression" "lets_expression" s_lets_expression
  g_lets_expression : mg "lets_expression" = some (.ref (He.ga K "lets_expression"))
  d_fits : Df K (He.ga K "fits") "fits" "fits" s_fits
  g_fits : mg "fits" = some (.ref (He.ga K "fits"))
  d_computed : Df K (He.ga K "computed") "computed" "computed" s_computed
  g_computed : mg "computed" = some (.ref (He.ga K "computed"))
  d_Evaluator_look : Df K (He.ma K (He.ga K "Evaluator") "look") "look" "Evaluator.look" s_Evaluator_look
  d_Evaluator_members : Df K (He.ma K (He.ga K "Evaluator") "members") "members" "Evaluator.members" s_Evaluator_members
  d_Evaluator_holder : Df K (He.ma K (He.ga K "Evaluator") "holder") "holder" "Evaluator.holder" s_Evaluator_holder
  d_Evaluator_led_to : Df K (He.ma K (He.ga K "Evaluator") "led_to") "led_to" "Evaluator.led_to" s_Evaluator_led_to
  d_Evaluator_amount : Df K (He.ma K (He.ga K "Evaluator") "amount") "amount" "Evaluator.amount" s_Evaluator_amount
  d_Evaluator_summed : Df K (He.ma K (He.ga K "Evaluator") "summed") "summed" "Evaluator.summed" s_Evaluator_summed
  d_Evaluator_holds : Df K (He.ma K (He.ga K "Evaluator") "holds") "holds" "Evaluator.holds" s_Evaluator_holds
  d_Evaluator_link : Df K (He.ma K (He.ga K "Evaluator") "link") "link" "Evaluator.link" s_Evaluator_link
  d_PlainEvaluator_init : Df K (He.ma K (He.ga K "PlainEvaluator") "__init__") "__init__" "PlainEvaluator.__init__" s_PlainEvaluator_init
  d_PlainEvaluator_look : Df K (He.ma K (He.ga K "PlainEvaluator") "look") "look" "PlainEvaluator.look" s_PlainEvaluator_look
  d_PlainEvaluator_members : Df K (He.ma K (He.ga K "PlainEvaluator") "members") "members" "PlainEvaluator.members" s_PlainEvaluator_members
  d_require_object : Df K (He.ga K "require_object") "require_object" "require_object" s_require_object
  g_require_object : mg "require_object" = some (.ref (He.ga K "require_object"))
  d_number_at : Df K (He.ga K "number_at") "number_at" "number_at" s_number_at
  g_number_at : mg "number_at" = some (.ref (He.ga K "number_at"))
  d_link_at : Df K (He.ga K "link_at") "link_at" "link_at" s_link_at
  g_link_at : mg "link_at" = some (.ref (He.ga K "link_at"))
  d_require_change : Df K (He.ga K "require_change") "require_change" "require_change" s_require_change
  g_require_change : mg "require_change" = some (.ref (He.ga K "require_change"))
  d_has_change_shape : Df K (He.ga K "has_change_shape") "has_change_shape" "has_change_shape" s_has_change_shape
  g_has_change_shape : mg "has_change_shape" = some (.ref (He.ga K "has_change_shape"))
  d_check_classes : Df K (He.ga K "check_classes") "check_classes" "check_classes" s_check_classes
  g_check_classes : mg "check_classes" = some (.ref (He.ga K "check_classes"))
  d_check_links : Df K (He.ga K "check_links") "check_links" "check_links" s_check_links
  g_check_links : mg "check_links" = some (.ref (He.ga K "check_links"))
  d_check_fits : Df K (He.ga K "check_fits") "check_fits" "check_fits" s_check_fits
  g_check_fits : mg "check_fits" = some (.ref (He.ga K "check_fits"))
  d_lets_change : Df K (He.ga K "lets_change") "lets_change" "lets_change" s_lets_change
  g_lets_change : mg "lets_change" = some (.ref (He.ga K "lets_change"))
  d_is_change : Df K (He.ga K "is_change") "is_change" "is_change" s_is_change
  g_is_change : mg "is_change" = some (.ref (He.ga K "is_change"))
  d_schema_after : Df K (He.ga K "schema_after") "schema_after" "schema_after" s_schema_after
  g_schema_after : mg "schema_after" = some (.ref (He.ga K "schema_after"))
  d_value_for : Df K (He.ga K "value_for") "value_for" "value_for" s_value_for
  g_value_for : mg "value_for" = some (.ref (He.ga K "value_for"))
  d_changed : Df K (He.ga K "changed") "changed" "changed" s_changed
  g_changed : mg "changed" = some (.ref (He.ga K "changed"))
  d_require_step : Df K (He.ga K "require_step") "require_step" "require_step" s_require_step
  g_require_step : mg "require_step" = some (.ref (He.ga K "require_step"))
  d_is_value : Df K (He.ga K "is_value") "is_value" "is_value" s_is_value
  g_is_value : mg "is_value" = some (.ref (He.ga K "is_value"))
  d_made : Df K (He.ga K "made") "made" "made" s_made
  g_made : mg "made" = some (.ref (He.ga K "made"))
  d_law_feed : Df K (He.ga K "_law_feed") "_law_feed" "_law_feed" s_law_feed
  g_law_feed : mg "_law_feed" = some (.ref (He.ga K "_law_feed"))
  d_law_draw : Df K (He.ga K "_law_draw") "_law_draw" "_law_draw" s_law_draw
  g_law_draw : mg "_law_draw" = some (.ref (He.ga K "_law_draw"))
  d_law_laps : Df K (He.ga K "_law_laps") "_law_laps" "_law_laps" s_law_laps
  g_law_laps : mg "_law_laps" = some (.ref (He.ga K "_law_laps"))
  d_law_any : Df K (He.ga K "_law_any") "_law_any" "_law_any" s_law_any
  g_law_any : mg "_law_any" = some (.ref (He.ga K "_law_any"))
  d_law_lot : Df K (He.ga K "_law_lot") "_law_lot" "_law_lot" s_law_lot
  g_law_lot : mg "_law_lot" = some (.ref (He.ga K "_law_lot"))
  d_law_classes : Df K (He.ga K "_law_classes") "_law_classes" "_law_classes" s_law_classes
  g_law_classes : mg "_law_classes" = some (.ref (He.ga K "_law_classes"))
  d_law_fitting : Df K (He.ga K "_law_fitting") "_law_fitting" "_law_fitting" s_law_fitting
  g_law_fitting : mg "_law_fitting" = some (.ref (He.ga K "_law_fitting"))
  d_law_values : Df K (He.ga K "_law_values") "_law_values" "_law_values" s_law_values
  g_law_values : mg "_law_values" = some (.ref (He.ga K "_law_values"))
  d_law_house : Df K (He.ga K "_law_house") "_law_house" "_law_house" s_law_house
  g_law_house : mg "_law_house" = some (.ref (He.ga K "_law_house"))
  d_law_column : Df K (He.ga K "_law_column") "_law_column" "_law_column" s_law_column
  g_law_column : mg "_law_column" = some (.ref (He.ga K "_law_column"))
  d_law_by : Df K (He.ga K "_law_by") "_law_by" "_law_by" s_law_by
  g_law_by : mg "_law_by" = some (.ref (He.ga K "_law_by"))
  d_law_field_right : Df K (He.ga K "_law_field_right") "_law_field_right" "_law_field_right" s_law_field_right
  g_law_field_right : mg "_law_field_right" = some (.ref (He.ga K "_law_field_right"))
  d_law_given_right : Df K (He.ga K "_law_given_right") "_law_given_right" "_law_given_right" s_law_given_right
  g_law_given_right : mg "_law_given_right" = some (.ref (He.ga K "_law_given_right"))
  d_law_kept_right : Df K (He.ga K "_law_kept_right") "_law_kept_right" "_law_kept_right" s_law_kept_right
  g_law_kept_right : mg "_law_kept_right" = some (.ref (He.ga K "_law_kept_right"))
  d_law : Df K (He.ga K "law") "law" "law" s_law
  g_law : mg "law" = some (.ref (He.ga K "law"))
  z_len : mg "len" = none
  z_isinstance : mg "isinstance" = none
  z_tuple : mg "tuple" = none
  z_list : mg "list" = none
  z_dict : mg "dict" = none
  z_sorted : mg "sorted" = none
  z_enumerate : mg "enumerate" = none
  z_zip : mg "zip" = none
  z_range : mg "range" = none
  z_all : mg "all" = none
  z_int : mg "int" = none
  z_max : mg "max" = none
  z_min : mg "min" = none
  z_repr : mg "repr" = none
  z_str : mg "str" = none
  z_super : mg "super" = none
  z_bool : mg "bool" = none
  c_LONGEST : ∃ t, mg "LONGEST" = some (.int 8 t)
  c_LETTERS : ∃ t, mg "LETTERS" = some (.str "abcdefghijklmnopqrstuvwxyz" t)
  c_CONDITION : ∃ t, mg "CONDITION" = some (.str "condition" t)
  c_NUMBER_WORDS : ∃ a, mg "NUMBER_WORDS" = some (.ref a) ∧ ∀ H, SqT K H a [.str "+", .str "-", .str "*", .str "least", .str "most"]
end Lf
set_option maxHeartbeats 4000000
/-! Hd0 (printed by gen_hd.py): what is asked of the top, read off a part of the heap. -/
namespace Lf
open PySem PySem.Spec L2
open PyProof.Rows hiding St wpAt wpAt_bind wpAt_mono
abbrev PR : Program := PySem.Challenge.pw_lateforms_k26_whole_conversions
abbrev FnV : Type := Option (Str × Str × Arguments × FuncBody × Scope × Addr × List Str × Addr)
def fnK (K : Fg) (a : Addr) : FnV := match K.lookup a with
  | some ⟨_, _, .func fd, _⟩ => some (fd.name, fd.qualname, fd.params, fd.body, fd.scope, fd.globals, fd.closure.map (·.1), fd.builtins)
  | _ => none
/-- a def by its place -/
structure DD where
  adr : Fg → Addr
  nm : Str
  qual : Str
  st : Stmt
  cl : List Str
def DD.val (d : DD) : FnV := some (d.nm, d.qual, defArgs d.st, .stmts (defBody d.st), defScope d.st, mainGlobals, d.cl, builtinsNs)
def isNo : Value → Bool
  | .none => true
  | _ => false
def DD.ok (K : Fg) (d : DD) : Bool := match K.lookup (d.adr K) with
  | some ⟨_, _, .func fd, _⟩ => PySem.W.codeIn K fd.code d.qual && isNo fd.defaults
  | _ => false
theorem DD.look {K : Fg} {d : DD} (e : fnK K (d.adr K) = d.val) (c : d.ok K = true) : ∃ (oc : Value) (od : Option Addr) (osl : Array (Option Value)) (kV doc pm : Value) (an : Option Addr) (cdv ct : Value) (cl : List (Str × Addr)),
    K.lookup (d.adr K) = some ⟨oc, od, .func (PySem.W.fnX d.nm d.qual (defArgs d.st) (defBody d.st) (defScope d.st) cl .none kV doc pm an cdv ct), osl⟩ ∧ PySem.W.codeIn K cdv d.qual = true ∧ cl.map (·.1) = d.cl := by
  unfold DD.ok at c
  unfold fnK at e
  cases q : K.lookup (d.adr K) with
  | none => rw [q] at c; cases c
  | some o =>
    obtain ⟨oc, od, dt, osl⟩ := o
    rw [q] at c e
    cases dt with
    | func fd =>
      obtain ⟨n1, n2, n3, n4, n5, n6, n7, n8, n9, n10, n11, n12, n13, n14, n15⟩ := fd
      have e2 : (some (n1, n2, n3, n4, n5, n6, n7.map (·.1), n15) : FnV) = some (d.nm, d.qual, defArgs d.st, .stmts (defBody d.st), defScope d.st, mainGlobals, d.cl, builtinsNs) := e
      simp only [Option.some.injEq, Prod.mk.injEq] at e2
      obtain ⟨h1, h2, h3, h4, h5, h6, h7, h8⟩ := e2
      obtain ⟨c1, c2⟩ := He.ba c
      have c2 : isNo n8 = true := c2
      have n8e : n8 = .none := by cases n8 <;> first | rfl | cases c2
      subst h1 h2 h3 h4 h5 h6 h8 n8e
      exact ⟨oc, od, osl, n9, n10, n11, n12, n13, n14, n7, rfl, c1, h7⟩
    | _ => cases c
theorem keep_of {K : Fg} {a : Addr} {oc : Value} {od : Option Addr} {fd : FuncData} {osl : Array (Option Value)} (h : K.lookup a = some ⟨oc, od, .func fd, osl⟩) : PySem.W.keepIn K (.ref a) = true := by
  unfold PySem.W.keepIn
  dsimp only
  rw [h]
theorem DD.df {K : Fg} {d : DD} (e : fnK K (d.adr K) = d.val) (c : d.ok K = true) (h : d.cl = []) : Df K (d.adr K) d.nm d.qual d.st := by
  obtain ⟨oc, od, osl, kV, doc, pm, an, cdv, ct, cl, lk, hc, hl⟩ := DD.look e c
  obtain rfl : cl = [] := by rw [h] at hl; exact List.map_eq_nil_iff.mp hl
  exact ⟨_, ⟨⟨oc, od, .none, kV, doc, pm, an, cdv, ct, osl, rfl, lk, hc, .inl ⟨rfl, rfl⟩, .inl rfl⟩, keep_of lk⟩⟩
/-- a cell that holds D; a code object of the program's file -/
def cellTo (K : Fg) (cc D : Addr) : Bool := match K.lookup cc with
  | some o => (match o.data with
    | .cell (some (.ref a)) => decide (a = D)
    | _ => false)
  | none => false
theorem cellTo_ok {K : Fg} {cc D : Addr} (h : cellTo K cc D = true) : ∃ o, K.lookup cc = some o ∧ o.data = .cell (some (.ref D)) := by
  unfold cellTo at h
  cases q : K.lookup cc with
  | none => rw [q] at h; cases h
  | some o =>
    rw [q] at h
    obtain ⟨oc, od, dt, osl⟩ := o
    refine ⟨_, rfl, ?_⟩
    cases dt with
    | cell v =>
      cases v with
      | none => cases h
      | some u =>
        cases u with
        | ref a =>
          have e : a = D := of_decide_eq_true h
          rw [e]
        | _ => cases h
    | _ => cases h
def strIs (v : Option Value) : Bool := match v with
  | some (.str file _) => ((PR.main.file : Str) == file)
  | _ => false
theorem strIs_ok {v : Option Value} (h : strIs v = true) : ∃ file tf, v = some (.str file tf) ∧ ((PR.main.file : Str) == file) = true := by
  cases v with
  | none => cases h
  | some u =>
    cases u with
    | str x t => exact ⟨x, t, rfl, h⟩
    | _ => cases h
def fileIs (K : Fg) (cda : Addr) : Bool := match K.lookup cda with
  | some o => (match o.data with
    | .fields vs => strIs vs[2]?
    | _ => false)
  | none => false
theorem fileIs_ok {K : Fg} {cda : Addr} (h : fileIs K cda = true) : ∃ o vs file tf, K.lookup cda = some o ∧ o.data = .fields vs ∧ vs[2]? = some (.str file tf) ∧ ((PR.main.file : Str) == file) = true := by
  unfold fileIs at h
  cases q : K.lookup cda with
  | none => rw [q] at h; cases h
  | some o =>
    rw [q] at h
    obtain ⟨oc, od, dt, osl⟩ := o
    cases dt with
    | fields vs =>
      obtain ⟨file, tf, e1, e2⟩ := strIs_ok (show strIs vs[2]? = true from h)
      exact ⟨_, vs, file, tf, rfl, rfl, e1, e2⟩
    | _ => cases h
def clsB (K : Fg) (D : Addr) : Bool := match K.lookup D with
  | some o => (match o.data with
    | .cls _ => true
    | _ => false)
  | none => false
theorem clsB_ok {K : Fg} {D : Addr} (h : clsB K D = true) : ∃ o cd, K.lookup D = some o ∧ o.data = .cls cd := by
  unfold clsB at h
  cases q : K.lookup D with
  | none => rw [q] at h; cases h
  | some o =>
    rw [q] at h
    obtain ⟨oc, od, dt, osl⟩ := o
    cases dt with
    | cls cd => exact ⟨_, cd, rfl, rfl⟩
    | _ => cases h
def hdA (l : List (Str × Addr)) : Addr := match l with
  | p :: _ => p.2
  | [] => 0
def adA (v : Value) : Addr := match v with
  | .ref a => a
  | _ => 0
/-- what a def with the class cell needs -/
def supB (K : Fg) (f D : Addr) : Bool := match K.lookup f with
  | some ⟨_, _, .func fd, _⟩ => cellTo K (hdA fd.closure) D && (fileIs K (adA fd.code) && clsB K D)
  | _ => false
theorem top_super : (PR.main.scope.names.lookup ("super" : Str)).isSome = false := by decide +kernel
/-- a property's getter -/
def prG (K : Fg) (p : Addr) : Addr := match PySem.W.recIn K p "property" with
  | some (.ref g :: _) => g
  | _ => 0
def prB (K : Fg) (p : Addr) : Bool := match PySem.W.recIn K p "property" with
  | some (.ref _ :: _) => true
  | _ => false
theorem prG_ok {K : Fg} {p : Addr} (h : prB K p = true) : ∃ rest, PySem.W.recIn K p "property" = some (.ref (prG K p) :: rest) := by
  unfold prB at h
  split at h
  · rename_i g rest q
    refine ⟨rest, ?_⟩
    unfold prG
    rw [q]
  · cases h
theorem all1_ok {α : Type} {p : α → Prop} {a : α} (h : p a) : ∀ x ∈ [a], p x := fun x hx => by rw [List.mem_singleton.mp hx]; exact h
theorem all2_ok {α : Type} {p : α → Prop} {a b : α} (h : p a) (h2 : p b) : ∀ x ∈ [a, b], p x := fun x hx => (List.mem_cons.mp hx).elim (fun e => by rw [e]; exact h) (all1_ok h2 x)
theorem all5_ok {α : Type} {p : α → Prop} {a b c d e : α} (h : p a) (h2 : p b) (h3 : p c) (h4 : p d) (h5 : p e) : ∀ x ∈ [a, b, c, d, e], p x := fun x hx => (List.mem_cons.mp hx).elim (fun e => by rw [e]; exact h) fun hx => (List.mem_cons.mp hx).elim (fun e => by rw [e]; exact h2) fun hx => (List.mem_cons.mp hx).elim (fun e => by rw [e]; exact h3) (all2_ok h4 h5 x)
def fa0 : List He.Fa := [.glo "kept_expression",
  .glo "change_of",
  .glo "is_integer",
  .glo "is_number",
  .glo "is_name",
  .glo "is_pair",
  .glo "is_range",
  .glo "is_kind",
  .glo "rises",
  .glo "is_named_rows",
  .glo "is_form",
  .glo "form_of",
  .glo "kind_of",
  .glo "path_kind",
  .glo "is_total",
  .glo "is_worded",
  .glo "choice_parts",
  .glo "number_parts",
  .glo "condition_parts",
  .glo "link_parts",
  .glo "fitting_parts",
  .glo "lets_expression",
  .glo "fits",
  .glo "computed",
  .glo "require_object",
  .glo "number_at",
  .glo "link_at",
  .glo "require_change",
  .glo "has_change_shape",
  .glo "check_classes"]
def fa1 : List He.Fa := [.glo "check_links",
  .glo "check_fits",
  .glo "lets_change",
  .glo "is_change",
  .glo "schema_after",
  .glo "value_for",
  .glo "changed",
  .glo "require_step",
  .glo "is_value",
  .glo "made",
  .glo "_law_feed",
  .glo "_law_draw",
  .glo "_law_laps",
  .glo "_law_any",
  .glo "_law_lot",
  .glo "_law_classes",
  .glo "_law_fitting",
  .glo "_law_values",
  .glo "_law_house",
  .glo "_law_column",
  .glo "_law_by",
  .glo "_law_field_right",
  .glo "_law_given_right",
  .glo "_law_kept_right",
  .glo "law",
  .free "len",
  .free "isinstance",
  .free "tuple",
  .free "list",
  .free "dict"]
def fa2 : List He.Fa := [.free "sorted",
  .free "enumerate",
  .free "zip",
  .free "range",
  .free "all",
  .free "int",
  .free "max",
  .free "min",
  .free "repr",
  .free "str",
  .free "super",
  .free "bool",
  .int "LONGEST" 8,
  .str "LETTERS" "abcdefghijklmnopqrstuvwxyz",
  .str "CONDITION" "condition",
  .glo "NUMBER_WORDS",
  .glo "UnfitExpression",
  .glo "InvalidPaper",
  .glo "PlainEvaluator",
  .cls "PlainEvaluator",
  .noat "PlainEvaluator" "classes",
  .noat "PlainEvaluator" "rows",
  .noat "PlainEvaluator" "noted",
  .glo "Kept",
  .glo "Renamed",
  .glo "Without",
  .glo "With",
  .glo "RenamedWith",
  .cls "Kept",
  .noat "Kept" "form_before"]
def fa3 : List He.Fa := [.noat "Kept" "old_name",
  .noat "Kept" "new_name",
  .noat "Kept" "field_out",
  .noat "Kept" "field_in",
  .noat "Kept" "entry_in",
  .cls "Renamed",
  .noat "Renamed" "form_before",
  .noat "Renamed" "old_name",
  .noat "Renamed" "new_name",
  .noat "Renamed" "field_out",
  .noat "Renamed" "field_in",
  .noat "Renamed" "entry_in",
  .cls "Without",
  .noat "Without" "form_before",
  .noat "Without" "old_name",
  .noat "Without" "new_name",
  .noat "Without" "field_out",
  .noat "Without" "field_in",
  .noat "Without" "entry_in",
  .cls "With",
  .noat "With" "form_before",
  .noat "With" "old_name",
  .noat "With" "new_name",
  .noat "With" "field_out",
  .noat "With" "field_in",
  .noat "With" "entry_in",
  .cls "RenamedWith",
  .noat "RenamedWith" "form_before",
  .noat "RenamedWith" "old_name",
  .noat "RenamedWith" "new_name"]
def fa4 : List He.Fa := [.noat "RenamedWith" "field_out",
  .noat "RenamedWith" "field_in",
  .noat "RenamedWith" "entry_in"]
def faL : List He.Fa := fa0 ++ fa1 ++ fa2 ++ fa3 ++ fa4
def fx0 (K : Fg) : List Bool := [He.tupB K "NUMBER_WORDS" [.str "+", .str "-", .str "*", .str "least", .str "most"],
  PySem.W.makesIn K (He.ga K "PlainEvaluator"),
  He.eqO (PySem.W.findIn K (.ref (He.ga K "PlainEvaluator")) "__init__") (some (some (.ref (He.ma K (He.ga K "PlainEvaluator") "__init__")))),
  PySem.W.isFn K (.ref (He.ma K (He.ga K "PlainEvaluator") "__init__")),
  PySem.W.keepIn K (.ref (He.ga K "PlainEvaluator")),
  He.eqO (PySem.W.findIn K (.ref (He.ga K "PlainEvaluator")) "look") (some (some (.ref (He.ma K (He.ga K "PlainEvaluator") "look")))),
  PySem.W.isFn K (.ref (He.ma K (He.ga K "PlainEvaluator") "look")),
  PySem.W.keepIn K (.ref (He.ma K (He.ga K "PlainEvaluator") "look")),
  He.eqO (PySem.W.findIn K (.ref (He.ga K "PlainEvaluator")) "holder") (some (some (.ref (He.ma K (He.ga K "Evaluator") "holder")))),
  PySem.W.isFn K (.ref (He.ma K (He.ga K "Evaluator") "holder")),
  PySem.W.keepIn K (.ref (He.ma K (He.ga K "Evaluator") "holder")),
  He.eqO (PySem.W.findIn K (.ref (He.ga K "PlainEvaluator")) "led_to") (some (some (.ref (He.ma K (He.ga K "Evaluator") "led_to")))),
  PySem.W.isFn K (.ref (He.ma K (He.ga K "Evaluator") "led_to")),
  PySem.W.keepIn K (.ref (He.ma K (He.ga K "Evaluator") "led_to")),
  He.eqO (PySem.W.findIn K (.ref (He.ga K "PlainEvaluator")) "amount") (some (some (.ref (He.ma K (He.ga K "Evaluator") "amount")))),
  PySem.W.isFn K (.ref (He.ma K (He.ga K "Evaluator") "amount")),
  PySem.W.keepIn K (.ref (He.ma K (He.ga K "Evaluator") "amount")),
  He.eqO (PySem.W.findIn K (.ref (He.ga K "PlainEvaluator")) "link") (some (some (.ref (He.ma K (He.ga K "Evaluator") "link")))),
  PySem.W.isFn K (.ref (He.ma K (He.ga K "Evaluator") "link")),
  PySem.W.keepIn K (.ref (He.ma K (He.ga K "Evaluator") "link")),
  He.eqO (PySem.W.findIn K (.ref (He.ga K "Kept")) "__class__") (some (some (.builtin "object.__class__"))),
  He.eqO (PySem.W.specialIn K (.builtin "object.__class__") "__get__") (some (some (.builtin "getset_descriptor.__get__"))),
  decide (PySem.W.takesIn K (.builtin "object.__class__") = some true),
  decide (PySem.W.mroIn K (He.ga K "Kept") (.type "object") = some true),
  He.eqO (PySem.W.findIn K (.ref (He.ga K "Renamed")) "__class__") (some (some (.builtin "object.__class__"))),
  decide (PySem.W.mroIn K (He.ga K "Renamed") (.type "object") = some true),
  He.eqO (PySem.W.findIn K (.ref (He.ga K "Without")) "__class__") (some (some (.builtin "object.__class__"))),
  decide (PySem.W.mroIn K (He.ga K "Without") (.type "object") = some true),
  He.eqO (PySem.W.findIn K (.ref (He.ga K "With")) "__class__") (some (some (.builtin "object.__class__"))),
  decide (PySem.W.mroIn K (He.ga K "With") (.type "object") = some true)]
def fx1 (K : Fg) : List Bool := [He.eqO (PySem.W.findIn K (.ref (He.ga K "RenamedWith")) "__class__") (some (some (.builtin "object.__class__"))),
  decide (PySem.W.mroIn K (He.ga K "RenamedWith") (.type "object") = some true),
  He.eqO (PySem.W.findIn K (.ref (He.ga K "Kept")) "form") (some (some (.ref (He.ma K (He.ga K "Kept") "form")))),
  He.eqO (PySem.W.specialIn K (.ref (He.ma K (He.ga K "Kept") "form")) "__get__") (some (some (.builtin "property.__get__"))),
  decide (PySem.W.takesIn K (.ref (He.ma K (He.ga K "Kept") "form")) = some true),
  prB K (He.ma K (He.ga K "Kept") "form"),
  He.eqO (PySem.W.findIn K (.ref (He.ga K "Kept")) "expressions") (some (some (.ref (He.ma K (He.ga K "Kept") "expressions")))),
  He.eqO (PySem.W.specialIn K (.ref (He.ma K (He.ga K "Kept") "expressions")) "__get__") (some (some (.builtin "property.__get__"))),
  decide (PySem.W.takesIn K (.ref (He.ma K (He.ga K "Kept") "expressions")) = some true),
  prB K (He.ma K (He.ga K "Kept") "expressions"),
  He.eqO (PySem.W.findIn K (.ref (He.ga K "Kept")) "row_of") (some (some (.ref (He.ma K (He.ga K "Kept") "row_of")))),
  PySem.W.isFn K (.ref (He.ma K (He.ga K "Kept") "row_of")),
  PySem.W.keepIn K (.ref (He.ma K (He.ga K "Kept") "row_of")),
  He.eqO (PySem.W.findIn K (.ref (He.ga K "Renamed")) "form") (some (some (.ref (He.ma K (He.ga K "Kept") "form")))),
  He.eqO (PySem.W.findIn K (.ref (He.ga K "Renamed")) "expressions") (some (some (.ref (He.ma K (He.ga K "Kept") "expressions")))),
  He.eqO (PySem.W.findIn K (.ref (He.ga K "Renamed")) "row_of") (some (some (.ref (He.ma K (He.ga K "Kept") "row_of")))),
  He.eqO (PySem.W.findIn K (.ref (He.ga K "Without")) "form") (some (some (.ref (He.ma K (He.ga K "Kept") "form")))),
  He.eqO (PySem.W.findIn K (.ref (He.ga K "Without")) "expressions") (some (some (.ref (He.ma K (He.ga K "Kept") "expressions")))),
  He.eqO (PySem.W.findIn K (.ref (He.ga K "Without")) "row_of") (some (some (.ref (He.ma K (He.ga K "Kept") "row_of")))),
  He.eqO (PySem.W.findIn K (.ref (He.ga K "With")) "form") (some (some (.ref (He.ma K (He.ga K "Kept") "form")))),
  He.eqO (PySem.W.findIn K (.ref (He.ga K "With")) "expressions") (some (some (.ref (He.ma K (He.ga K "Kept") "expressions")))),
  He.eqO (PySem.W.findIn K (.ref (He.ga K "With")) "row_of") (some (some (.ref (He.ma K (He.ga K "Kept") "row_of")))),
  He.eqO (PySem.W.findIn K (.ref (He.ga K "RenamedWith")) "form") (some (some (.ref (He.ma K (He.ga K "Kept") "form")))),
  He.eqO (PySem.W.findIn K (.ref (He.ga K "RenamedWith")) "expressions") (some (some (.ref (He.ma K (He.ga K "Kept") "expressions")))),
  He.eqO (PySem.W.findIn K (.ref (He.ga K "RenamedWith")) "row_of") (some (some (.ref (He.ma K (He.ga K "Kept") "row_of")))),
  PySem.W.makesIn K (He.ga K "Kept"),
  He.eqO (PySem.W.findIn K (.ref (He.ga K "Kept")) "__init__") (some (some (.ref (He.ma K (He.ga K "Kept") "__init__")))),
  PySem.W.isFn K (.ref (He.ma K (He.ga K "Kept") "__init__")),
  PySem.W.keepIn K (.ref (He.ga K "Kept")),
  PySem.W.makesIn K (He.ga K "Renamed")]
def fx2 (K : Fg) : List Bool := [He.eqO (PySem.W.findIn K (.ref (He.ga K "Renamed")) "__init__") (some (some (.ref (He.ma K (He.ga K "Renamed") "__init__")))),
  PySem.W.isFn K (.ref (He.ma K (He.ga K "Renamed") "__init__")),
  PySem.W.keepIn K (.ref (He.ga K "Renamed")),
  PySem.W.makesIn K (He.ga K "Without"),
  He.eqO (PySem.W.findIn K (.ref (He.ga K "Without")) "__init__") (some (some (.ref (He.ma K (He.ga K "Without") "__init__")))),
  PySem.W.isFn K (.ref (He.ma K (He.ga K "Without") "__init__")),
  PySem.W.keepIn K (.ref (He.ga K "Without")),
  PySem.W.makesIn K (He.ga K "With"),
  He.eqO (PySem.W.findIn K (.ref (He.ga K "With")) "__init__") (some (some (.ref (He.ma K (He.ga K "With") "__init__")))),
  PySem.W.isFn K (.ref (He.ma K (He.ga K "With") "__init__")),
  PySem.W.keepIn K (.ref (He.ga K "With")),
  PySem.W.makesIn K (He.ga K "RenamedWith"),
  He.eqO (PySem.W.findIn K (.ref (He.ga K "RenamedWith")) "__init__") (some (some (.ref (He.ma K (He.ga K "Renamed") "__init__")))),
  PySem.W.keepIn K (.ref (He.ga K "RenamedWith")),
  He.eqO (PySem.W.findIn K (.ref (He.ga K "Kept")) "entries") (some (some (.ref (He.ma K (He.ga K "Kept") "entries")))),
  PySem.W.isFn K (.ref (He.ma K (He.ga K "Kept") "entries")),
  PySem.W.keepIn K (.ref (He.ma K (He.ga K "Kept") "entries")),
  He.eqO (PySem.W.findIn K (.ref (He.ga K "Renamed")) "entries") (some (some (.ref (He.ma K (He.ga K "Renamed") "entries")))),
  PySem.W.isFn K (.ref (He.ma K (He.ga K "Renamed") "entries")),
  PySem.W.keepIn K (.ref (He.ma K (He.ga K "Renamed") "entries")),
  He.eqO (PySem.W.findIn K (.ref (He.ga K "Without")) "entries") (some (some (.ref (He.ma K (He.ga K "Without") "entries")))),
  PySem.W.isFn K (.ref (He.ma K (He.ga K "Without") "entries")),
  PySem.W.keepIn K (.ref (He.ma K (He.ga K "Without") "entries")),
  He.eqO (PySem.W.findIn K (.ref (He.ga K "With")) "entries") (some (some (.ref (He.ma K (He.ga K "With") "entries")))),
  PySem.W.isFn K (.ref (He.ma K (He.ga K "With") "entries")),
  PySem.W.keepIn K (.ref (He.ma K (He.ga K "With") "entries")),
  He.eqO (PySem.W.findIn K (.ref (He.ga K "RenamedWith")) "entries") (some (some (.ref (He.ma K (He.ga K "Renamed") "entries")))),
  supB K (He.ma K (He.ga K "Renamed") "__init__") (He.ga K "Renamed"),
  supB K (He.ma K (He.ga K "Renamed") "entries") (He.ga K "Renamed"),
  supB K (He.ma K (He.ga K "Without") "__init__") (He.ga K "Without")]
def fx3 (K : Fg) : List Bool := [supB K (He.ma K (He.ga K "Without") "entries") (He.ga K "Without"),
  supB K (He.ma K (He.ga K "With") "__init__") (He.ga K "With"),
  supB K (He.ma K (He.ga K "With") "entries") (He.ga K "With"),
  PySem.W.fnIn K (He.ma K (He.ga K "Kept") "__init__"),
  PySem.W.fnIn K (He.ma K (He.ga K "Kept") "entries"),
  PySem.W.fnIn K (He.ma K (He.ga K "With") "__init__"),
  PySem.W.fnIn K (He.ma K (He.ga K "With") "entries"),
  decide (PySem.W.mroIn K (He.ga K "Renamed") (.ref (He.ga K "Renamed")) = some true),
  He.eqO (PySem.W.ks_superIn K (He.ga K "Renamed") (He.ga K "Renamed") "__init__") (some (some (.ref (He.ma K (He.ga K "Kept") "__init__")))),
  decide (PySem.W.typeIn K (.ref (He.ma K (He.ga K "Kept") "__init__")) = some (.type "function")),
  He.eqO (PySem.W.nsIn K cStatics "thirdparty.any") (some none),
  He.eqO (PySem.W.ks_superIn K (He.ga K "Renamed") (He.ga K "Renamed") "entries") (some (some (.ref (He.ma K (He.ga K "Kept") "entries")))),
  decide (PySem.W.typeIn K (.ref (He.ma K (He.ga K "Kept") "entries")) = some (.type "function")),
  decide (PySem.W.mroIn K (He.ga K "Without") (.ref (He.ga K "Without")) = some true),
  He.eqO (PySem.W.ks_superIn K (He.ga K "Without") (He.ga K "Without") "__init__") (some (some (.ref (He.ma K (He.ga K "Kept") "__init__")))),
  He.eqO (PySem.W.ks_superIn K (He.ga K "Without") (He.ga K "Without") "entries") (some (some (.ref (He.ma K (He.ga K "Kept") "entries")))),
  decide (PySem.W.mroIn K (He.ga K "With") (.ref (He.ga K "With")) = some true),
  He.eqO (PySem.W.ks_superIn K (He.ga K "With") (He.ga K "With") "__init__") (some (some (.ref (He.ma K (He.ga K "Kept") "__init__")))),
  He.eqO (PySem.W.ks_superIn K (He.ga K "With") (He.ga K "With") "entries") (some (some (.ref (He.ma K (He.ga K "Kept") "entries")))),
  decide (PySem.W.mroIn K (He.ga K "RenamedWith") (.ref (He.ga K "Renamed")) = some true),
  He.eqO (PySem.W.ks_superIn K (He.ga K "RenamedWith") (He.ga K "Renamed") "__init__") (some (some (.ref (He.ma K (He.ga K "With") "__init__")))),
  decide (PySem.W.typeIn K (.ref (He.ma K (He.ga K "With") "__init__")) = some (.type "function")),
  He.eqO (PySem.W.ks_superIn K (He.ga K "RenamedWith") (He.ga K "Renamed") "entries") (some (some (.ref (He.ma K (He.ga K "With") "entries")))),
  decide (PySem.W.typeIn K (.ref (He.ma K (He.ga K "With") "entries")) = some (.type "function")),
  decide (PySem.W.mroIn K (He.ga K "RenamedWith") (.ref (He.ga K "With")) = some true),
  He.eqO (PySem.W.ks_superIn K (He.ga K "RenamedWith") (He.ga K "With") "__init__") (some (some (.ref (He.ma K (He.ga K "Kept") "__init__")))),
  He.eqO (PySem.W.ks_superIn K (He.ga K "RenamedWith") (He.ga K "With") "entries") (some (some (.ref (He.ma K (He.ga K "Kept") "entries")))),
  decide (PySem.W.kitOne K (.ref (He.ga K "Kept")) (.ref (He.ga K "Kept")) = some true),
  decide (PySem.W.kitOne K (.ref (He.ga K "Renamed")) (.ref (He.ga K "Kept")) = some true),
  decide (PySem.W.kitOne K (.ref (He.ga K "Without")) (.ref (He.ga K "Kept")) = some true)]
def fx4 (K : Fg) : List Bool := [decide (PySem.W.kitOne K (.ref (He.ga K "With")) (.ref (He.ga K "Kept")) = some true),
  decide (PySem.W.kitOne K (.ref (He.ga K "RenamedWith")) (.ref (He.ga K "Kept")) = some true),
  decide (PySem.W.kitOne K (.type "tuple") (.ref (He.ga K "Kept")) = some false),
  He.eqO (PySem.W.findIn K (.ref (He.ga K "Renamed")) "__eq__") (some (some (.ref (He.ma K (He.ga K "Kept") "__eq__")))),
  He.eqO (PySem.W.findIn K (.ref (He.ga K "Without")) "__eq__") (some (some (.ref (He.ma K (He.ga K "Kept") "__eq__")))),
  He.eqO (PySem.W.findIn K (.ref (He.ga K "Renamed")) "__ne__") (some (some (.builtin "object.__ne__"))),
  He.eqO (PySem.W.findIn K (.ref (He.ga K "Without")) "__ne__") (some (some (.builtin "object.__ne__"))),
  PySem.W.isFn K (.ref (He.ma K (He.ga K "Kept") "__eq__")),
  decide (PySem.W.subIn K (.ref (He.ga K "Renamed")) (.ref (He.ga K "Kept")) = some true),
  decide (PySem.W.subIn K (.ref (He.ga K "Without")) (.ref (He.ga K "Kept")) = some true),
  decide (He.ga K "Kept" ≠ He.ga K "Renamed"),
  decide (He.ga K "Kept" ≠ He.ga K "Without")]
def fxL (K : Fg) : List Bool := fx0 K ++ fx1 K ++ fx2 K ++ fx3 K ++ fx4 K
def dd0 : List DD := [⟨fun K => He.ga K "kept_expression", "kept_expression", "kept_expression", s_kept_expression, []⟩,
  ⟨fun K => He.ma K (He.ga K "Kept") "__init__", "__init__", "Kept.__init__", s_Kept_init, []⟩,
  ⟨fun K => He.ma K (He.ga K "Kept") "entries", "entries", "Kept.entries", s_Kept_entries, []⟩,
  ⟨fun K => He.ma K (He.ga K "Kept") "row_of", "row_of", "Kept.row_of", s_Kept_row_of, []⟩,
  ⟨fun K => He.ma K (He.ga K "Kept") "__eq__", "__eq__", "Kept.__eq__", s_Kept_eq, []⟩,
  ⟨fun K => He.ga K "change_of", "change_of", "change_of", s_change_of, []⟩,
  ⟨fun K => He.ga K "is_integer", "is_integer", "is_integer", s_is_integer, []⟩,
  ⟨fun K => He.ga K "is_number", "is_number", "is_number", s_is_number, []⟩,
  ⟨fun K => He.ga K "is_name", "is_name", "is_name", s_is_name, []⟩,
  ⟨fun K => He.ga K "is_pair", "is_pair", "is_pair", s_is_pair, []⟩,
  ⟨fun K => He.ga K "is_range", "is_range", "is_range", s_is_range, []⟩,
  ⟨fun K => He.ga K "is_kind", "is_kind", "is_kind", s_is_kind, []⟩,
  ⟨fun K => He.ga K "rises", "rises", "rises", s_rises, []⟩,
  ⟨fun K => He.ga K "is_named_rows", "is_named_rows", "is_named_rows", s_is_named_rows, []⟩,
  ⟨fun K => He.ga K "is_form", "is_form", "is_form", s_is_form, []⟩,
  ⟨fun K => He.ga K "form_of", "form_of", "form_of", s_form_of, []⟩,
  ⟨fun K => He.ga K "kind_of", "kind_of", "kind_of", s_kind_of, []⟩,
  ⟨fun K => He.ga K "path_kind", "path_kind", "path_kind", s_path_kind, []⟩,
  ⟨fun K => He.ga K "is_total", "is_total", "is_total", s_is_total, []⟩,
  ⟨fun K => He.ga K "is_worded", "is_worded", "is_worded", s_is_worded, []⟩,
  ⟨fun K => He.ga K "choice_parts", "choice_parts", "choice_parts", s_choice_parts, []⟩,
  ⟨fun K => He.ga K "number_parts", "number_parts", "number_parts", s_number_parts, []⟩,
  ⟨fun K => He.ga K "condition_parts", "condition_parts", "condition_parts", s_condition_parts, []⟩,
  ⟨fun K => He.ga K "link_parts", "link_parts", "link_parts", s_link_parts, []⟩,
  ⟨fun K => He.ga K "fitting_parts", "fitting_parts", "fitting_parts", s_fitting_parts, []⟩,
  ⟨fun K => He.ga K "lets_expression", "lets_expression", "lets_expression", s_lets_expression, []⟩,
  ⟨fun K => He.ga K "fits", "fits", "fits", s_fits, []⟩,
  ⟨fun K => He.ga K "computed", "computed", "computed", s_computed, []⟩,
  ⟨fun K => He.ma K (He.ga K "Evaluator") "look", "look", "Evaluator.look", s_Evaluator_look, []⟩,
  ⟨fun K => He.ma K (He.ga K "Evaluator") "members", "members", "Evaluator.members", s_Evaluator_members, []⟩]
def dd1 : List DD := [⟨fun K => He.ma K (He.ga K "Evaluator") "holder", "holder", "Evaluator.holder", s_Evaluator_holder, []⟩,
  ⟨fun K => He.ma K (He.ga K "Evaluator") "led_to", "led_to", "Evaluator.led_to", s_Evaluator_led_to, []⟩,
  ⟨fun K => He.ma K (He.ga K "Evaluator") "amount", "amount", "Evaluator.amount", s_Evaluator_amount, []⟩,
  ⟨fun K => He.ma K (He.ga K "Evaluator") "summed", "summed", "Evaluator.summed", s_Evaluator_summed, []⟩,
  ⟨fun K => He.ma K (He.ga K "Evaluator") "holds", "holds", "Evaluator.holds", s_Evaluator_holds, []⟩,
  ⟨fun K => He.ma K (He.ga K "Evaluator") "link", "link", "Evaluator.link", s_Evaluator_link, []⟩,
  ⟨fun K => He.ma K (He.ga K "PlainEvaluator") "__init__", "__init__", "PlainEvaluator.__init__", s_PlainEvaluator_init, []⟩,
  ⟨fun K => He.ma K (He.ga K "PlainEvaluator") "look", "look", "PlainEvaluator.look", s_PlainEvaluator_look, []⟩,
  ⟨fun K => He.ma K (He.ga K "PlainEvaluator") "members", "members", "PlainEvaluator.members", s_PlainEvaluator_members, []⟩,
  ⟨fun K => He.ga K "require_object", "require_object", "require_object", s_require_object, []⟩,
  ⟨fun K => He.ga K "number_at", "number_at", "number_at", s_number_at, []⟩,
  ⟨fun K => He.ga K "link_at", "link_at", "link_at", s_link_at, []⟩,
  ⟨fun K => He.ga K "require_change", "require_change", "require_change", s_require_change, []⟩,
  ⟨fun K => He.ga K "has_change_shape", "has_change_shape", "has_change_shape", s_has_change_shape, []⟩,
  ⟨fun K => He.ga K "check_classes", "check_classes", "check_classes", s_check_classes, []⟩,
  ⟨fun K => He.ga K "check_links", "check_links", "check_links", s_check_links, []⟩,
  ⟨fun K => He.ga K "check_fits", "check_fits", "check_fits", s_check_fits, []⟩,
  ⟨fun K => He.ga K "lets_change", "lets_change", "lets_change", s_lets_change, []⟩,
  ⟨fun K => He.ga K "is_change", "is_change", "is_change", s_is_change, []⟩,
  ⟨fun K => He.ga K "schema_after", "schema_after", "schema_after", s_schema_after, []⟩,
  ⟨fun K => He.ga K "value_for", "value_for", "value_for", s_value_for, []⟩,
  ⟨fun K => He.ga K "changed", "changed", "changed", s_changed, []⟩,
  ⟨fun K => He.ga K "require_step", "require_step", "require_step", s_require_step, []⟩,
  ⟨fun K => He.ga K "is_value", "is_value", "is_value", s_is_value, []⟩,
  ⟨fun K => He.ga K "made", "made", "made", s_made, []⟩,
  ⟨fun K => He.ga K "_law_feed", "_law_feed", "_law_feed", s_law_feed, []⟩,
  ⟨fun K => He.ga K "_law_draw", "_law_draw", "_law_draw", s_law_draw, []⟩,
  ⟨fun K => He.ga K "_law_laps", "_law_laps", "_law_laps", s_law_laps, []⟩,
  ⟨fun K => He.ga K "_law_any", "_law_any", "_law_any", s_law_any, []⟩,
  ⟨fun K => He.ga K "_law_lot", "_law_lot", "_law_lot", s_law_lot, []⟩]
def dd2 : List DD := [⟨fun K => He.ga K "_law_classes", "_law_classes", "_law_classes", s_law_classes, []⟩,
  ⟨fun K => He.ga K "_law_fitting", "_law_fitting", "_law_fitting", s_law_fitting, []⟩,
  ⟨fun K => He.ga K "_law_values", "_law_values", "_law_values", s_law_values, []⟩,
  ⟨fun K => He.ga K "_law_house", "_law_house", "_law_house", s_law_house, []⟩,
  ⟨fun K => He.ga K "_law_column", "_law_column", "_law_column", s_law_column, []⟩,
  ⟨fun K => He.ga K "_law_by", "_law_by", "_law_by", s_law_by, []⟩,
  ⟨fun K => He.ga K "_law_field_right", "_law_field_right", "_law_field_right", s_law_field_right, []⟩,
  ⟨fun K => He.ga K "_law_given_right", "_law_given_right", "_law_given_right", s_law_given_right, []⟩,
  ⟨fun K => He.ga K "_law_kept_right", "_law_kept_right", "_law_kept_right", s_law_kept_right, []⟩,
  ⟨fun K => He.ga K "law", "law", "law", s_law, []⟩,
  ⟨fun K => prG K (He.ma K (He.ga K "Kept") "form"), "form", "Kept.form", s_Kept_form, []⟩,
  ⟨fun K => prG K (He.ma K (He.ga K "Kept") "expressions"), "expressions", "Kept.expressions", s_Kept_expressions, []⟩,
  ⟨fun K => He.ma K (He.ga K "Renamed") "__init__", "__init__", "Renamed.__init__", s_Renamed_init, ["__class__"]⟩,
  ⟨fun K => He.ma K (He.ga K "Renamed") "entries", "entries", "Renamed.entries", s_Renamed_entries, ["__class__"]⟩,
  ⟨fun K => He.ma K (He.ga K "Without") "__init__", "__init__", "Without.__init__", s_Without_init, ["__class__"]⟩,
  ⟨fun K => He.ma K (He.ga K "Without") "entries", "entries", "Without.entries", s_Without_entries, ["__class__"]⟩,
  ⟨fun K => He.ma K (He.ga K "With") "__init__", "__init__", "With.__init__", s_With_init, ["__class__"]⟩,
  ⟨fun K => He.ma K (He.ga K "With") "entries", "entries", "With.entries", s_With_entries, ["__class__"]⟩]
def ddL : List DD := dd0 ++ dd1 ++ dd2
abbrev AlL : Type := Bool × List FnV
def obsL (K : Fg) : AlL := ((faL.all fun f => f.ok K) && ((fxL K).all id && ddL.all fun d => d.ok K), ddL.map fun d => fnK K (d.adr K))
def valL : AlL := (true, ddL.map DD.val)
/-- what the top has left -/
def SaysL (K : Fg) : Prop := obsL K = valL
end Lf
set_option maxHeartbeats 0
/-! Hd2: the run of the top. -/
namespace Lf
open PySem PySem.Spec PyProof.Rows L2
/-- what an object leads to, as far as it is wanted -/
def nxA (g : Addr → Option Obj) (a : Addr) : List Addr := match g a with
  | some ⟨_, _, .dict es _, _⟩ => es.toList.flatMap fun e => He.refV e.val
  | some ⟨_, _, .func fd, _⟩ => He.refV fd.code ++ fd.closure.map (·.2)
  | some ⟨_, _, .cls cd, _⟩ => [cd.ns]
  | some ⟨.type "property", _, .fields vs, _⟩ => vs.toList.flatMap He.refV
  | _ => []
def lvA (g : Addr → Option Obj) : Nat → List Addr → List Addr
  | 0, l => l
  | n + 1, l => l ++ lvA g n (l.flatMap (nxA g))
def asK (g : Addr → Option Obj) : List Addr := cStatics :: lvA g 5 [mainGlobals]
abbrev RO' : PySem.W.OpenRow := PySem.W.OpenLaw.row PySem.Challenge.rw_lateforms_k26_whole_conversions
def obT (s : PySem.W.SharedT) : AlL := obsL (He.frG (HandSHeadRun.getT s) (asK (HandSHeadRun.getT s)))
def loose0 : List PySem.Str := ["kept_expression", "Kept", "Renamed", "Without", "With", "RenamedWith", "change_of", "LateError", "PaperError", "StoreError", "InvalidPaper", "UnknownObject", "InvalidStep", "UnfitExpression", "LETTERS"]
def loose1 : List PySem.Str := ["LONGEST", "is_integer", "is_number", "is_name", "is_pair", "is_range", "is_kind", "rises", "is_named_rows", "is_form", "form_of", "kind_of", "CONDITION", "ANY_RANGE", "TWO_NUMBERS"]
def loose2 : List PySem.Str := ["NUMBER_WORDS", "path_kind", "is_total", "is_worded", "choice_parts", "number_parts", "condition_parts", "link_parts", "fitting_parts", "lets_expression", "fits", "computed", "Evaluator", "PlainEvaluator", "require_object"]
def loose3 : List PySem.Str := ["number_at", "link_at", "require_change", "has_change_shape", "check_classes", "check_links", "check_fits", "lets_change", "is_change", "schema_after", "value_for", "changed", "require_step", "is_value", "made"]
def loose4 : List PySem.Str := ["_law_feed", "_law_draw", "_law_laps", "_law_any", "_law_lot", "_law_classes", "_law_fitting", "_law_values", "_law_house", "_law_column", "_law_by", "_law_field_right", "_law_given_right", "_law_kept_right"]
abbrev loose : List PySem.Str := loose0 ++ loose1 ++ loose2 ++ loose3 ++ loose4
def hookL : PySem.W.Hook where
  α := AlL
  obs := fun s => obsL (He.frG s.heap.get? (asK s.heap.get?))
  val := fun _ => valL
  says := fun _ h => ∃ K : Fg, K.In h ∧ SaysL K
  of := fun _ _ e => ⟨_, He.frG_in, e⟩
  keeps := fun _ _ _ ⟨K, hK, c⟩ k => ⟨K, PySem.W.Frag.In.keeps hK k, c⟩
theorem ob_eq (s : PySem.W.SharedT) : obT s = hookL.obs s.abs := by
  have e : HandSHeadRun.getT s = s.abs.heap.get? := funext (HandSHeadRun.getT_eq s)
  unfold obT
  rw [e]
  rfl
theorem run (w : World) : HandSHeadRun.RunEq RO' (PySem.W.view RO'.prog [83]) hookL obT 20000 loose w := by
  intro os
  kernel_rfl
end Lf
set_option maxHeartbeats 4000000
/-! K1: the defs of kinds. -/
namespace Lf
open PySem PySem.Spec L2
open PyProof.Rows hiding St

/-- a slot's value as data -/
theorem vd {X : Cx} {σ : St} {H : Hp} {x : Str} {pos : Pos} {v : V} {d : PyData} (i : Nat) (h : Dp X.K H v d) (hs : σ[i]? = some (some v) := by rfl) (hN : X.N[i]? = some x := by rfl) (vis : Vis X.env.scope x := by first | exact .inl rfl | exact .inr (.inl rfl) | exact .inr (.inr rfl))
    (hd : (x == ("__debug__" : Str)) = false := by decide) (hcd : (x == ("__classdict__" : Str)) = false := by decide) : PE X (.Name x pos) (tG Ex σ H (Hd X.K d)) :=
  de_var (i := i) rlEx hs (mo_d rlEx) h hN vis hd hcd
/-- .. carried from an earlier heap -/
theorem vdm {X : Cx} {σ : St} {H H0 : Hp} {x : Str} {pos : Pos} {v : V} {d : PyData} (i : Nat) (h : Dp X.K H0 v d) (e : Ex H0 H) (hs : σ[i]? = some (some v) := by rfl) (hN : X.N[i]? = some x := by rfl) (vis : Vis X.env.scope x := by first | exact .inl rfl | exact .inr (.inl rfl) | exact .inr (.inr rfl))
    (hd : (x == ("__debug__" : Str)) = false := by decide) (hcd : (x == ("__classdict__" : Str)) = false := by decide) : PE X (.Name x pos) (tG Ex σ H (Hd X.K d)) :=
  de_var (i := i) rlEx hs (mo_d rlEx) (rlEx.dp e h) hN vis hd hcd
/-- a slot's value as it is -/
theorem vv {X : Cx} {σ : St} {H : Hp} {x : Str} {pos : Pos} {v : V} (i : Nat) (hs : σ[i]? = some (some v) := by rfl) (hN : X.N[i]? = some x := by rfl) (vis : Vis X.env.scope x := by first | exact .inl rfl | exact .inr (.inl rfl) | exact .inr (.inr rfl))
    (hd : (x == ("__debug__" : Str)) = false := by decide) (hcd : (x == ("__classdict__" : Str)) = false := by decide) : PE X (.Name x pos) (tG Ex σ H (Hv v)) :=
  de_var (i := i) rlEx hs mo_v rfl hN vis hd hcd
/-- a built-in type's name as a value -/
theorem vty {X : Cx} {R : Rel} {σ : St} {H : Hp} {x : Str} {pos : Pos} {T : String} (r : Rl R) (hm : X.mg x = none) (hg : Gl X x := by rfl) (hv : bootBuiltins x = some (.type T) := by decide +kernel) (hn : x ≠ "__name__" := by decide) (hd : (x == ("__debug__" : Str)) = false := by decide) : PE X (.Name x pos) (tG R σ H (Hv (.ty T))) :=
  de_bltn r hg hm hv rfl hn hd

def isInt : PyData → Bool
  | .none => false
  | .bool _ => true
  | .int _ => true
  | .str _ => false
  | .list _ => false
  | .tuple _ => false
  | .dict _ => false
theorem kit_Int : ∀ d : PyData, kitB (tyN d) "int" = some (isInt d)
  | .none => (by decide +kernel : kitB "NoneType" "int" = some false)
  | .bool _ => (by decide +kernel : kitB "bool" "int" = some true)
  | .int _ => (by decide +kernel : kitB "int" "int" = some true)
  | .str _ => (by decide +kernel : kitB "str" "int" = some false)
  | .list _ => (by decide +kernel : kitB "list" "int" = some false)
  | .tuple _ => (by decide +kernel : kitB "tuple" "int" = some false)
  | .dict _ => (by decide +kernel : kitB "dict" "int" = some false)
def isBool : PyData → Bool
  | .none => false
  | .bool _ => true
  | .int _ => false
  | .str _ => false
  | .list _ => false
  | .tuple _ => false
  | .dict _ => false
theorem kit_Bool : ∀ d : PyData, kitB (tyN d) "bool" = some (isBool d)
  | .none => (by decide +kernel : kitB "NoneType" "bool" = some false)
  | .bool _ => (by decide +kernel : kitB "bool" "bool" = some true)
  | .int _ => (by decide +kernel : kitB "int" "bool" = some false)
  | .str _ => (by decide +kernel : kitB "str" "bool" = some false)
  | .list _ => (by decide +kernel : kitB "list" "bool" = some false)
  | .tuple _ => (by decide +kernel : kitB "tuple" "bool" = some false)
  | .dict _ => (by decide +kernel : kitB "dict" "bool" = some false)
def isStr : PyData → Bool
  | .none => false
  | .bool _ => false
  | .int _ => false
  | .str _ => true
  | .list _ => false
  | .tuple _ => false
  | .dict _ => false
theorem kit_Str : ∀ d : PyData, kitB (tyN d) "str" = some (isStr d)
  | .none => (by decide +kernel : kitB "NoneType" "str" = some false)
  | .bool _ => (by decide +kernel : kitB "bool" "str" = some false)
  | .int _ => (by decide +kernel : kitB "int" "str" = some false)
  | .str _ => (by decide +kernel : kitB "str" "str" = some true)
  | .list _ => (by decide +kernel : kitB "list" "str" = some false)
  | .tuple _ => (by decide +kernel : kitB "tuple" "str" = some false)
  | .dict _ => (by decide +kernel : kitB "dict" "str" = some false)
def isTup : PyData → Bool
  | .none => false
  | .bool _ => false
  | .int _ => false
  | .str _ => false
  | .list _ => false
  | .tuple _ => true
  | .dict _ => false
theorem kit_Tup : ∀ d : PyData, kitB (tyN d) "tuple" = some (isTup d)
  | .none => (by decide +kernel : kitB "NoneType" "tuple" = some false)
  | .bool _ => (by decide +kernel : kitB "bool" "tuple" = some false)
  | .int _ => (by decide +kernel : kitB "int" "tuple" = some false)
  | .str _ => (by decide +kernel : kitB "str" "tuple" = some false)
  | .list _ => (by decide +kernel : kitB "list" "tuple" = some false)
  | .tuple _ => (by decide +kernel : kitB "tuple" "tuple" = some true)
  | .dict _ => (by decide +kernel : kitB "dict" "tuple" = some false)
def isI : PyData → Bool
  | .int _ => true
  | _ => false
/-- a call of a def of the module that keeps what stands -/
theorem cE {X : Cx} {σ : St} {H : Hp} {e : Expr} {es : List Expr} {p pos : Pos} {τ : Type} {Pre : τ → Prop} {A : τ → List Pv} {B : τ → Pv} {k j : Nat} {nm : Str} {P : Program} {w : World} {K : Fg} {mg : Str → Option Value} {base : Heap} (c : Fnc P w K mg base k nm (spT (fun _ => Ex) Pre A B)) (x : τ) (hr : Room j X.A) (pre : Pre x)
    (ha : PA X (e :: es) (tA Ex σ H (A x))) (hk : k ≤ j := by decide) (hg : Gl X nm := by rfl) (hdb : (nm == ("__debug__" : Str)) = false := by decide) (he : starEach (e :: es) X.env = (false, eval e X.env) :: starEach es X.env := by rfl) (hpl : (backTo pos (starEach es X.env)).any (·.1) = false := by rfl)
    (hP : X.prog = P := by rfl) (hw : X.w = w := by rfl) (hK : X.K = K := by rfl) (hm : X.mg = mg := by rfl) (hb : X.base = base := by rfl) : PE X (.Call (.Name nm p) (e :: es) [] pos) (tG Ex σ H (B x)) := by
  subst hP hw hK hm hb
  exact de_call c x rlEx hr hk pre (fun _ _ h => h) hg ha hdb he hpl
/-- a call of a def that a slot holds -/
theorem cL {X : Cx} {σ : St} {H : Hp} {e : Expr} {es : List Expr} {p pos : Pos} {τ : Type} {Pre : τ → Prop} {A : τ → List Pv} {B : τ → Pv} {k j : Nat} {nm : Str} {f : Addr} {P : Program} {w : World} {K : Fg} {mg : Str → Option Value} {base : Heap} (i : Nat) (c : Fna P w K mg base k f (spT (fun _ => Ex) Pre A B)) (x : τ) (hr : Room j X.A) (pre : Pre x)
    (ha : PA X (e :: es) (tA Ex σ H (A x))) (hk : k ≤ j := by decide) (hs : σ[i]? = some (some (.ref f)) := by rfl) (hN : X.N[i]? = some nm := by rfl) (vis : Vis X.env.scope nm := by first | exact .inl rfl | exact .inr (.inl rfl) | exact .inr (.inr rfl)) (hdb : (nm == ("__debug__" : Str)) = false := by decide) (hcd : (nm == ("__classdict__" : Str)) = false := by decide)
    (he : starEach (e :: es) X.env = (false, eval e X.env) :: starEach es X.env := by rfl) (hpl : (backTo pos (starEach es X.env)).any (·.1) = false := by rfl)
    (hP : X.prog = P := by rfl) (hw : X.w = w := by rfl) (hK : X.K = K := by rfl) (hm : X.mg = mg := by rfl) (hb : X.base = base := by rfl) : PE X (.Call (.Name nm p) (e :: es) [] pos) (tG Ex σ H (B x)) := by
  subst hP hw hK hm hb
  exact de_callL (i := i) c x rlEx hr hk pre (fun _ _ h => h) hs hN vis ha hdb hcd he hpl
section
variable {X : Cx} {σ : St} {H : Hp} {e1 e2 e3 e4 : Expr} {d1 d2 d3 d4 : PyData} {φ1 φ2 φ3 : Pv}
theorem ar1 (h1 : PE X e1 (tG Ex σ H (Hd X.K d1))) (s1 : starEach [e1] X.env = (false, eval e1 X.env) :: starEach [] X.env := by rfl) : PA X [e1] (tA Ex σ H [Hd X.K d1]) := da_cons rlEx (mo_d rlEx) h1 (da_nil rlEx) s1
theorem ar2 (h1 : PE X e1 (tG Ex σ H (Hd X.K d1))) (h2 : PE X e2 (tG Ex σ H (Hd X.K d2))) (s1 : starEach [e1, e2] X.env = (false, eval e1 X.env) :: starEach [e2] X.env := by rfl) (s2 : starEach [e2] X.env = (false, eval e2 X.env) :: starEach [] X.env := by rfl) : PA X [e1, e2] (tA Ex σ H [Hd X.K d1, Hd X.K d2]) :=
  da_cons rlEx (mo_d rlEx) h1 (ar1 h2 s2) s1
theorem ar3 (h1 : PE X e1 (tG Ex σ H (Hd X.K d1))) (h2 : PE X e2 (tG Ex σ H (Hd X.K d2))) (h3 : PE X e3 (tG Ex σ H (Hd X.K d3))) (s1 : starEach [e1, e2, e3] X.env = (false, eval e1 X.env) :: starEach [e2, e3] X.env := by rfl)
    (s2 : starEach [e2, e3] X.env = (false, eval e2 X.env) :: starEach [e3] X.env := by rfl) (s3 : starEach [e3] X.env = (false, eval e3 X.env) :: starEach [] X.env := by rfl) : PA X [e1, e2, e3] (tA Ex σ H [Hd X.K d1, Hd X.K d2, Hd X.K d3]) := da_cons rlEx (mo_d rlEx) h1 (ar2 h2 h3 s2 s3) s1
theorem ar4 (h1 : PE X e1 (tG Ex σ H (Hd X.K d1))) (h2 : PE X e2 (tG Ex σ H (Hd X.K d2))) (h3 : PE X e3 (tG Ex σ H (Hd X.K d3))) (h4 : PE X e4 (tG Ex σ H (Hd X.K d4))) (s1 : starEach [e1, e2, e3, e4] X.env = (false, eval e1 X.env) :: starEach [e2, e3, e4] X.env := by rfl)
    (s2 : starEach [e2, e3, e4] X.env = (false, eval e2 X.env) :: starEach [e3, e4] X.env := by rfl) (s3 : starEach [e3, e4] X.env = (false, eval e3 X.env) :: starEach [e4] X.env := by rfl) (s4 : starEach [e4] X.env = (false, eval e4 X.env) :: starEach [] X.env := by rfl) :
    PA X [e1, e2, e3, e4] (tA Ex σ H [Hd X.K d1, Hd X.K d2, Hd X.K d3, Hd X.K d4]) := da_cons rlEx (mo_d rlEx) h1 (ar3 h2 h3 h4 s2 s3 s4) s1
end
/-- a constant of the module -/
theorem vgl {X : Cx} {σ : St} {H : Hp} {x : Str} {pos : Pos} {u : Value} (v : V) (d : PyData) (hm : X.mg x = some u) (rv : RelV v u) (p : ∀ H1, Dp X.K H1 v d) (hg : Gl X x := by rfl) (hd : (x == ("__debug__" : Str)) = false := by decide) : PE X (.Name x pos) (tG Ex σ H (Hd X.K d)) :=
  de_c (t := tC .non) rlEx (pe_glob hg hm rv hd) fun H1 _ => p H1
/-! ### names, kinds, forms as data -/
def nmOk (x : Str) : Prop := 1 ≤ x.length ∧ x.length ≤ 8 ∧ ∀ c ∈ x.cps.toList, c ∈ ("abcdefghijklmnopqrstuvwxyz" : Str).cps.toList
inductive Kd where
  | rng (lo hi : Int) | cls (c : Str)
  deriving DecidableEq
def dK : Kd → PyData
  | .rng lo hi => .tuple [.int lo, .int hi]
  | .cls c => .str c
def kdOk : Kd → Prop
  | .rng lo hi => lo ≤ hi
  | .cls c => nmOk c
abbrev Form := List (Str × Kd)
def dFld (p : Str × Kd) : PyData := .tuple [.str p.1, dK p.2]
def dForm (fm : Form) : PyData := .tuple (fm.map dFld)
abbrev Sch := List (Str × Form)
def dCls (p : Str × Form) : PyData := .tuple [.str p.1, dForm p.2]
def dSch (sch : Sch) : PyData := .tuple (sch.map dCls)
/-- the first with this name -/
def fnd {α : Type} (c : Str) : List (Str × α) → Option α
  | [] => none
  | p :: r => if p.1 = c then some p.2 else fnd c r
def sLt (x y : Str) : Bool := decide (x.cps.toList < y.cps.toList)
section
variable {P : Program} {w : World} {K : Fg} {mg : Str → Option Value} {base : Heap}
abbrev spIsI (K : Fg) : Sp := spT (fun _ => Ex) (fun _ : PyData => True) (fun d => [Hd K d]) (fun d => Hd K (.bool (isI d)))
theorem f_is_integer (T : Tx K mg) : Fnc P w K mg base 1 "is_integer" (spIsI K) := by
  refine ⟨T.g_is_integer, fna_of T.d_is_integer sc_is_integer bn_is_integer (fun _ => rfl) fun cdv A0 outer s H E d vs Q hr _ ha hQ => ?_⟩
  obtain ⟨v, rfl, h⟩ := all1 ha
  have e : (isInt d && !isBool d) = isI d := by cases d <;> rfl
  exact bs_ret (de_is (de_and rlEx (de_isi rlEx rfl T.z_isinstance (vd 0 h) (vty rlEx T.z_int) (kit_Int d)) fun _ => de_one (de_not (de_isi rlEx rfl T.z_isinstance (vd 0 h) (vty rlEx T.z_bool) (kit_Bool d)))) (congrArg PyData.bool e)) rlEx hQ
abbrev spIsNum (K : Fg) : Sp := spT (fun _ => Ex) (fun _ : Int => True) (fun i => [Hd K (.int i)]) (fun i => Hd K (.bool (decide (0 ≤ i))))
theorem f_is_number (T : Tx K mg) : Fnc P w K mg base 2 "is_number" (spIsNum K) := by
  refine ⟨T.g_is_number, fna_of T.d_is_number sc_is_number bn_is_number (fun _ => rfl) fun cdv A0 outer s H E i vs Q hr _ ha hQ => ?_⟩
  obtain ⟨v, rfl, h⟩ := all1 ha
  exact bs_ret (de_is (de_and rlEx (cE (f_is_integer T) (.int i) hr trivial (ar1 (vd 0 h))) fun _ => de_one (de_cmpI rlEx op_ge (vd 0 h) (de_int rlEx))) (by simp [isI])) rlEx hQ
abbrev spIsName (K : Fg) : Sp := spT (fun _ => Ex) nmOk (fun x => [Hd K (.str x)]) (fun x => Hd K (.bool true))
theorem f_is_name (T : Tx K mg) : Fnc P w K mg base 1 "is_name" (spIsName K) := by
  refine ⟨T.g_is_name, fna_of T.d_is_name sc_is_name bn_is_name (fun _ => rfl) fun cdv A0 outer s H E x vs Q hr ok ha hQ => ?_⟩
  obtain ⟨v, rfl, h⟩ := all1 ha
  obtain ⟨o1, o2, o3⟩ := ok
  obtain ⟨t8, g8⟩ := T.c_LONGEST
  obtain ⟨tl, gl⟩ := T.c_LETTERS
  refine bs_when (t := false) rlEx (dt_is (dt_w (dw_or (c := false) (c' := false) rlEx (dt_is (dt_not (dt_val rlEx (de_isi rlEx rfl T.z_isinstance (vd 0 h) (vty rlEx T.z_str) (kit_Str _)))) rfl) fun _ =>
    dw_or1 (dt_is (dt_not (dt_chainI rlEx op_le op_le (de_int rlEx) (de_lenS rlEx rfl T.z_len (Nat.le_trans o2 (by decide)) (vd 0 h)) (vgl (.int 8) (.int 8) g8 ⟨_, rfl⟩ fun _ => .int 8))) (by simp; omega)))) rfl) (fun z => by cases z) fun _ H1 e1 => ?_
  have all : (x.cps.toList.map fun c => decide (c ∈ ("abcdefghijklmnopqrstuvwxyz" : Str).cps.toList)).all id = true := by
    rw [List.all_map, List.all_eq_true]
    exact fun c hc => decide_eq_true (o3 c hc)
  refine bs_ret (de_is (de_all (bs := x.cps.toList.map fun c => decide (c ∈ ("abcdefghijklmnopqrstuvwxyz" : Str).cps.toList)) rlEx rfl rfl T.z_all ?_) (congrArg PyData.bool all)) rlEx fun v H2 e2 q => hQ v H2 (Ex.tr e1 e2) q
  refine de_is (de_lcM (own := [("sign", 1)]) (g := gName 1) (eo := fun c => PyData.bool (decide (c ∈ ("abcdefghijklmnopqrstuvwxyz" : Str).cps.toList))) rlEx rfl sc_is_name.nd (blkOk_by (N := ["thing", "sign"]) (sc := defScope s_is_name) (by decide +kernel)) (src_str rlEx (vd 0 (rlEx.dp e1 h)))
    (Nat.lt_of_le_of_lt (by rw [Array.length_toList]; exact o2) (by decide)) (fun _ _ => rfl) (fun _ _ _ _ _ => pg_name (i := 1) sc_is_name.nd rfl (.inl rfl)) gm_name fun c y H3 _ _ hc => ⟨rfl, Ex.rfl' _, fun H4 e4 _ _ _ _ _ => de_inS rlEx (vd 1 (rlEx.dp e4 hc)) (vgl (.str _) _ gl ⟨_, rfl⟩ fun _ => .str _)⟩) (by rw [List.map_map]; rfl)
end
end Lf
set_option maxHeartbeats 4000000
/-! K2: pairs, ranges, kinds, forms; look-ups in forms. -/
namespace Lf
open PySem PySem.Spec L2
open PyProof.Rows hiding St
section
variable {P : Program} {w : World} {K : Fg} {mg : Str → Option Value} {base : Heap}
def isRng : Kd → Bool
  | .rng _ _ => true
  | .cls _ => false
abbrev spPairI (K : Fg) : Sp := spT (fun _ => Ex) (fun _ : Kd => True) (fun k => [Hd K (dK k), Hv (.ref (He.ga K "is_integer")), Hv (.ref (He.ga K "is_integer"))]) (fun k => Hd K (.bool (isRng k)))
theorem f_is_pairI (T : Tx K mg) : Fnc P w K mg base 2 "is_pair" (spPairI K) := by
  refine ⟨T.g_is_pair, fna_of T.d_is_pair sc_is_pair bn_is_pair (fun _ => rfl) fun cdv A0 outer s H E k vs Q hr _ ha hQ => ?_⟩
  obtain ⟨v, u, t, rfl, h, rfl, rfl⟩ := all3 ha
  cases k with
  | cls c => exact bs_ret (de_and (c := false) (c' := true) rlEx (de_isi rlEx rfl T.z_isinstance (vd 0 h) (vty rlEx T.z_tuple) (kit_Tup (.str c))) fun z => by cases z) rlEx hQ
  | rng lo hi =>
    refine bs_ret (de_and (c := true) (c' := true) rlEx (de_isi rlEx rfl T.z_isinstance (vd 0 h) (vty rlEx T.z_tuple) (kit_Tup (dK (.rng lo hi)))) fun _ => de_and (c := true) (c' := true) rlEx (de_is (de_eqI rlEx (de_lenT (ds := [.int lo, .int hi]) rlEx rfl T.z_len (vd 0 h)) (de_int rlEx)) rfl) fun _ => de_and (c := true) (c' := true) rlEx ?_ fun _ => de_one ?_) rlEx hQ
    · exact de_is (cL 1 (f_is_integer T).fn (PyData.int lo) hr trivial (ar1 (de_ixT (ds := [.int lo, .int hi]) rlEx (vd 0 h) (de_int rlEx) rfl))) rfl
    · exact de_is (cL 2 (f_is_integer T).fn (PyData.int hi) hr trivial (ar1 (de_ixT (ds := [.int lo, .int hi]) rlEx (vd 0 h) (de_int rlEx) rfl))) rfl
abbrev spIsRange (K : Fg) : Sp := spT (fun _ => Ex) kdOk (fun k => [Hd K (dK k)]) (fun k => Hd K (.bool (isRng k)))
theorem f_is_range (T : Tx K mg) : Fnc P w K mg base 3 "is_range" (spIsRange K) := by
  refine ⟨T.g_is_range, fna_of T.d_is_range sc_is_range bn_is_range (fun _ => rfl) fun cdv A0 outer s H E k vs Q hr ok ha hQ => ?_⟩
  obtain ⟨v, rfl, h⟩ := all1 ha
  cases k with
  | cls c => exact bs_ret (de_and (c := false) (c' := true) rlEx (cE (f_is_pairI T) (Kd.cls c) hr trivial (da_cons rlEx (mo_d rlEx) (vd 0 h) (da_cons rlEx mo_v (de_glob rlEx rfl T.g_is_integer rfl) (da_cons rlEx mo_v (de_glob rlEx rfl T.g_is_integer rfl) (da_nil rlEx))))) fun z => by cases z) rlEx hQ
  | rng lo hi =>
    refine bs_ret (de_and (c := true) (c' := true) rlEx (cE (f_is_pairI T) (Kd.rng lo hi) hr trivial (da_cons rlEx (mo_d rlEx) (vd 0 h) (da_cons rlEx mo_v (de_glob rlEx rfl T.g_is_integer rfl) (da_cons rlEx mo_v (de_glob rlEx rfl T.g_is_integer rfl) (da_nil rlEx))))) fun _ => de_one (de_is (de_cmpI rlEx op_le (de_ixT (ds := [.int lo, .int hi]) rlEx (vd 0 h) (de_int rlEx) rfl) (de_ixT (ds := [.int lo, .int hi]) rlEx (vd 0 h) (de_int rlEx) rfl)) ?_)) rlEx hQ
    rw [decide_eq_true (show lo ≤ hi from ok)]
abbrev spIsKind (K : Fg) : Sp := spT (fun _ => Ex) kdOk (fun k => [Hd K (dK k)]) (fun k => Hd K (.bool true))
theorem f_is_kind (T : Tx K mg) : Fnc P w K mg base 4 "is_kind" (spIsKind K) := by
  refine ⟨T.g_is_kind, fna_of T.d_is_kind sc_is_kind bn_is_kind (fun _ => rfl) fun cdv A0 outer s H E k vs Q hr ok ha hQ => ?_⟩
  obtain ⟨v, rfl, h⟩ := all1 ha
  refine bs_ret (de_is (de_or (c := isRng k) (c' := true) rlEx (cE (f_is_range T) k hr ok (ar1 (vd 0 h))) fun z => de_one ?_) (by simp)) rlEx hQ
  cases k with
  | rng lo hi => cases z
  | cls c => exact cE (f_is_name T) c hr ok (ar1 (vd 0 h))
def fldOk (p : Str × Kd) : Prop := nmOk p.1 ∧ kdOk p.2
abbrev spPairF (K : Fg) : Sp := spT (fun _ => Ex) fldOk (fun p => [Hd K (dFld p), Hv (.ref (He.ga K "is_name")), Hv (.ref (He.ga K "is_kind"))]) (fun _ => Hd K (.bool true))
theorem f_is_pairF (T : Tx K mg) : Fnc P w K mg base 5 "is_pair" (spPairF K) := by
  refine ⟨T.g_is_pair, fna_of T.d_is_pair sc_is_pair bn_is_pair (fun _ => rfl) fun cdv A0 outer s H E p vs Q hr ok ha hQ => ?_⟩
  obtain ⟨v, u, t, rfl, h, rfl, rfl⟩ := all3 ha
  refine bs_ret (de_and (c := true) (c' := true) rlEx (de_isi rlEx rfl T.z_isinstance (vd 0 h) (vty rlEx T.z_tuple) (kit_Tup (dFld p))) fun _ => de_and (c := true) (c' := true) rlEx (de_is (de_eqI rlEx (de_lenT (ds := [.str p.1, dK p.2]) rlEx rfl T.z_len (vd 0 h)) (de_int rlEx)) rfl) fun _ => de_and (c := true) (c' := true) rlEx ?_ fun _ => de_one ?_) rlEx hQ
  · exact cL 1 (f_is_name T).fn p.1 hr ok.1 (ar1 (de_ixT (ds := [.str p.1, dK p.2]) rlEx (vd 0 h) (de_int rlEx) rfl))
  · exact cL 2 (f_is_kind T).fn p.2 hr ok.2 (ar1 (de_ixT (ds := [.str p.1, dK p.2]) rlEx (vd 0 h) (de_int rlEx) rfl))
/-- ascending, by neighbours -/
def rising (xs : List Str) : Bool := (xs.zip (xs.drop 1)).all fun p => sLt p.1 p.2
abbrev spRises (K : Fg) : Sp := spT (fun _ => Ex) (fun xs : List Str => xs.length < 1000) (fun xs => [Hd K (.list (xs.map PyData.str))]) (fun xs => Hd K (.bool (rising xs)))
theorem f_rises (T : Tx K mg) : Fnc P w K mg base 1 "rises" (spRises K) := by
  refine ⟨T.g_rises, fna_of T.d_rises sc_rises bn_rises (fun _ => rfl) fun cdv A0 outer s H E xs vs Q hr ok ha hQ => ?_⟩
  obtain ⟨v, rfl, h⟩ := all1 ha
  have cut : cutD (xs.map PyData.str) (some 1) none = (xs.drop 1).map PyData.str := by
    unfold cutD
    rw [HT.sIx_none]
    have e1 : HT.sIx (xs.map PyData.str).length 0 (some ((1 : Nat) : Int)) = min 1 xs.length := by rw [HT.sIx_nat, List.length_map]
    rw [show ((1 : Int)) = ((1 : Nat) : Int) from rfl, e1, List.length_map, ← List.map_drop, ← List.map_take]
    congr 1
    cases xs with
    | nil => rfl
    | cons x xs => simp
  have hl : (xs.zip (xs.drop 1)).length < sizeLine := Nat.lt_of_lt_of_le (show _ < 1000 by rw [List.length_zip]; omega) (by decide)
  refine bs_ret (de_is (de_all (bs := (xs.zip (xs.drop 1)).map fun p => sLt p.1 p.2) rlEx rfl rfl T.z_all ?_) (by unfold rising; rw [List.all_map]; rfl)) rlEx hQ
  exact de_is (de_lcM (own := [("one", 1), ("other", 2)]) (g := gTup K 2 (gCons (gName 1) (gCons (gName 2) gNil))) (eo := fun p : Str × Str => PyData.bool (sLt p.1 p.2)) rlEx rfl sc_rises.nd (blkOk_by (N := ["names", "one", "other"]) (sc := defScope s_rises) (by decide +kernel)) (src_zipL (l := xs) (m := xs.drop 1) (f := PyData.str) (g := PyData.str) rlEx rfl T.z_zip (vd 0 h) (de_is (de_slL rlEx (vd 0 h) (dpo_some (de_int rlEx)) (dpo_none rlEx)) (congrArg PyData.list cut))) hl (fun _ _ => rfl)
    (fun _ _ _ _ _ => pg_tup rfl (pgs_cons (pg_name (i := 1) sc_rises.nd rfl (.inl rfl)) (pgs_cons (pg_name (i := 2) sc_rises.nd rfl (.inl rfl)) pgs_nil))) gm_2 fun c y H3 _ _ hc => g2 hc fun v1 v2 h1 h2 => ⟨rfl, Ex.rfl' _, fun H4 e4 _ _ _ _ _ => de_ltS rlEx (vd 1 (rlEx.dp e4 h1)) (vd 2 (rlEx.dp e4 h2))⟩) (by rw [List.map_map]; rfl)
/-! ### forms, look-ups -/
def formOk (fm : Form) : Prop := (∀ p ∈ fm, fldOk p) ∧ rising (fm.map (·.1)) = true ∧ fm.length < 1000
theorem all_true {α : Type} (l : List α) : (l.map fun _ => true).all id = true := by
  rw [List.all_map, List.all_eq_true]; intro _ _; rfl
theorem nol_fld (p : Str × Kd) : nol (dFld p) = true := by
  obtain ⟨n, k⟩ := p
  cases k <;> simp [dFld, dK, nol, nolAll]
theorem nol_form (fm : Form) : nol (dForm fm) = true := by
  unfold dForm nol
  exact nolAll_map fun p _ => nol_fld p
abbrev spRows (K : Fg) : Sp := spT (fun _ => Ex) formOk (fun fm => [Hd K (dForm fm), Hv (.ref (He.ga K "is_kind"))]) (fun _ => Hd K (.bool true))
theorem f_is_named_rows (T : Tx K mg) : Fnc P w K mg base 6 "is_named_rows" (spRows K) := by
  refine ⟨T.g_is_named_rows, fna_of T.d_is_named_rows sc_is_named_rows bn_is_named_rows (fun _ => rfl) fun cdv A0 outer s H E fm vs Q hr ok ha hQ => ?_⟩
  obtain ⟨v, u, rfl, h, rfl⟩ := all2 ha
  obtain ⟨o1, o2, o3⟩ := ok
  have hz : fm.length < sizeLine := Nat.lt_of_lt_of_le o3 (by decide)
  refine bs_when (t := false) rlEx (dt_is (dt_w (dw_or (c := false) (c' := false) rlEx (dt_is (dt_not (dt_val rlEx (de_isi rlEx rfl T.z_isinstance (vd 0 h) (vty rlEx T.z_tuple) (kit_Tup (dForm fm))))) rfl) fun _ =>
    dw_or1 (dt_is (dt_not (dt_val rlEx (de_is (de_all (bs := fm.map fun _ => true) rlEx rfl rfl T.z_all ?_) (congrArg PyData.bool (all_true fm))))) rfl))) rfl) (fun z => by cases z) fun _ H1 e1 => ?_
  · exact de_is (de_lcM (own := [("own", 2)]) (g := gName 2) (eo := fun _ => PyData.bool true) rlEx rfl sc_is_named_rows.nd (blkOk_by (N := ["thing", "check", "own"]) (sc := defScope s_is_named_rows) (by decide +kernel)) (src_tup (src := fm) (f := dFld) rlEx (vd 0 h)) hz (fun _ _ => rfl)
      (fun _ _ _ _ _ => pg_name (i := 2) sc_is_named_rows.nd rfl (.inl rfl)) gm_name fun c y H3 hc _ hy => ⟨rfl, Ex.rfl' _, fun H4 e4 _ _ _ _ _ => cE (f_is_pairF T) c hr (o1 c hc) (da_cons rlEx (mo_d rlEx) (vd 2 (rlEx.dp e4 hy)) (da_cons rlEx mo_v (de_glob rlEx rfl T.g_is_name rfl) (da_cons rlEx mo_v (vv 1) (da_nil rlEx))))⟩) (by rw [List.map_map]; rfl)
  · refine bs_ret (de_is (cE (f_rises T) (fm.map (·.1)) hr (by rw [List.length_map]; exact o3) (ar1 ?_)) (congrArg PyData.bool o2)) rlEx fun v H2 e2 q => hQ v H2 (Ex.tr e1 e2) q
    exact de_is (de_lcM (own := [("own", 2)]) (g := gName 2) (eo := fun p : Str × Kd => PyData.str p.1) rlEx rfl sc_is_named_rows.nd (blkOk_by (N := ["thing", "check", "own"]) (sc := defScope s_is_named_rows) (by decide +kernel)) (src_tup (src := fm) (f := dFld) rlEx (vd 0 (rlEx.dp e1 h))) hz (fun _ _ => rfl)
      (fun _ _ _ _ _ => pg_name (i := 2) sc_is_named_rows.nd rfl (.inl rfl)) gm_name fun c y H3 _ _ hy => ⟨rfl, Ex.rfl' _, fun H4 e4 _ _ _ _ _ => de_ixT (ds := [.str c.1, dK c.2]) rlEx (vd 2 (rlEx.dp e4 hy)) (de_int rlEx) rfl⟩) (by rw [List.map_map]; rfl)
abbrev spIsForm (K : Fg) : Sp := spT (fun _ => Ex) formOk (fun fm => [Hd K (dForm fm)]) (fun _ => Hd K (.bool true))
theorem f_is_form (T : Tx K mg) : Fnc P w K mg base 7 "is_form" (spIsForm K) := by
  refine ⟨T.g_is_form, fna_of T.d_is_form sc_is_form bn_is_form (fun _ => rfl) fun cdv A0 outer s H E fm vs Q hr ok ha hQ => ?_⟩
  obtain ⟨v, rfl, h⟩ := all1 ha
  exact bs_ret (cE (f_is_named_rows T) fm hr ok (da_cons rlEx (mo_d rlEx) (vd 0 h) (da_cons rlEx mo_v (de_glob rlEx rfl T.g_is_kind rfl) (da_nil rlEx)))) rlEx hQ
def opt {α : Type} (f : α → PyData) : Option α → PyData
  | some x => f x
  | none => .none
theorem fnd_drop {α : Type} {c : Str} {l : List (Str × α)} {i : Nat} {p : Str × α} (h : l[i]? = some p) : fnd c (l.drop i) = if p.1 = c then some p.2 else fnd c (l.drop (i + 1)) := by
  have e : l.drop i = p :: l.drop (i + 1) := by
    obtain ⟨hi, rfl⟩ := List.getElem?_eq_some_iff.mp h
    exact List.drop_eq_getElem_cons hi
  rw [e]; rfl
abbrev spFormOf (K : Fg) : Sp := spT (fun _ => Ex) (fun x : Sch × Str => True) (fun x => [Hd K (dSch x.1), Hd K (.str x.2)]) (fun x => Hd K (opt dForm (fnd x.2 x.1)))
theorem f_form_of (T : Tx K mg) : Fnc P w K mg base 1 "form_of" (spFormOf K) := by
  refine ⟨T.g_form_of, fna_of T.d_form_of sc_form_of bn_form_of (fun _ => rfl) fun cdv A0 outer s H E x vs Q hr _ ha hQ => ?_⟩
  obtain ⟨sch, c⟩ := x
  obtain ⟨v, u, rfl, h1, h2⟩ := all2 ha
  refine bs_for (g := gTup K 2 (gCons (gName 2) (gCons (gName 3) gNil))) rlEx PassesOwn.never rfl (src_tup (src := sch) (f := dCls) rlEx (vd 0 h1)) (pg_tup rfl (pgs_cons (pg_name (i := 2) sc_form_of.nd rfl (.inl rfl)) (pgs_cons (pg_name (i := 3) sc_form_of.nd rfl (.inl rfl)) pgs_nil)))
    (fun H2 i σ' H' => ∃ a b, σ' = [some v, some u, a, b] ∧ Ex H2 H' ∧ fnd c sch = fnd c (sch.drop i)) (fun H2 _ => ⟨_, _, rfl, Ex.rfl' _, rfl⟩) (fun H2 i σ' H' _ _ ⟨_, _, _, e, _⟩ => e) ?_ ?_
  · rintro H2 i p y σ' H' H'' e1 hp ⟨a, b, rfl, e2, e3⟩ e4 hy
    refine g2 hy fun v1 v2 p1 p2 => ?_
    have ee : Ex H H'' := Ex.tr (Ex.tr e1 e2) e4
    rw [fnd_drop hp] at e3
    refine bs_when rlEx (dt_eqS rlEx (vd 2 p1) (vd 1 (rlEx.dp ee h2))) (fun z H3 e5 => ?_) fun z H3 e5 => ?_
    · rw [if_pos (of_decide_eq_true z)] at e3
      refine bs_ret (vd 3 (rlEx.dp e5 p2)) rlEx fun v' H4 e6 q => hQ v' H4 (Ex.tr (Ex.tr ee e5) e6) ?_
      show Dp K H4 v' (opt dForm (fnd c sch))
      rw [e3]
      exact q
    · rw [if_neg (of_decide_eq_false z)] at e3
      exact bs_nil ⟨_, _, rfl, Ex.tr (Ex.tr e2 e4) e5, e3⟩
  · rintro H2 σ' H' e1 ⟨a, b, rfl, e2, e3⟩
    refine bs_ret (de_non rlEx) rlEx fun v' H4 e6 q => hQ v' H4 (Ex.tr (Ex.tr e1 e2) e6) ?_
    show Dp K H4 v' (opt dForm (fnd c sch))
    rw [e3, List.drop_length]
    exact q
abbrev spKindOf (K : Fg) : Sp := spT (fun _ => Ex) (fun x : Form × Str => True) (fun x => [Hd K (dForm x.1), Hd K (.str x.2)]) (fun x => Hd K (opt dK (fnd x.2 x.1)))
theorem f_kind_of (T : Tx K mg) : Fnc P w K mg base 1 "kind_of" (spKindOf K) := by
  refine ⟨T.g_kind_of, fna_of T.d_kind_of sc_kind_of bn_kind_of (fun _ => rfl) fun cdv A0 outer s H E x vs Q hr _ ha hQ => ?_⟩
  obtain ⟨fm, c⟩ := x
  obtain ⟨v, u, rfl, h1, h2⟩ := all2 ha
  refine bs_for (g := gTup K 2 (gCons (gName 2) (gCons (gName 3) gNil))) rlEx PassesOwn.never rfl (src_tup (src := fm) (f := dFld) rlEx (vd 0 h1)) (pg_tup rfl (pgs_cons (pg_name (i := 2) sc_kind_of.nd rfl (.inl rfl)) (pgs_cons (pg_name (i := 3) sc_kind_of.nd rfl (.inl rfl)) pgs_nil)))
    (fun H2 i σ' H' => ∃ a b, σ' = [some v, some u, a, b] ∧ Ex H2 H' ∧ fnd c fm = fnd c (fm.drop i)) (fun H2 _ => ⟨_, _, rfl, Ex.rfl' _, rfl⟩) (fun H2 i σ' H' _ _ ⟨_, _, _, e, _⟩ => e) ?_ ?_
  · rintro H2 i p y σ' H' H'' e1 hp ⟨a, b, rfl, e2, e3⟩ e4 hy
    refine g2 hy fun v1 v2 p1 p2 => ?_
    have ee : Ex H H'' := Ex.tr (Ex.tr e1 e2) e4
    rw [fnd_drop hp] at e3
    refine bs_when rlEx (dt_eqS rlEx (vd 2 p1) (vd 1 (rlEx.dp ee h2))) (fun z H3 e5 => ?_) fun z H3 e5 => ?_
    · rw [if_pos (of_decide_eq_true z)] at e3
      refine bs_ret (vd 3 (rlEx.dp e5 p2)) rlEx fun v' H4 e6 q => hQ v' H4 (Ex.tr (Ex.tr ee e5) e6) ?_
      show Dp K H4 v' (opt dK (fnd c fm))
      rw [e3]
      exact q
    · rw [if_neg (of_decide_eq_false z)] at e3
      exact bs_nil ⟨_, _, rfl, Ex.tr (Ex.tr e2 e4) e5, e3⟩
  · rintro H2 σ' H' e1 ⟨a, b, rfl, e2, e3⟩
    refine bs_ret (de_non rlEx) rlEx fun v' H4 e6 q => hQ v' H4 (Ex.tr (Ex.tr e1 e2) e6) ?_
    show Dp K H4 v' (opt dK (fnd c fm))
    rw [e3, List.drop_length]
    exact q
end
end Lf
set_option maxHeartbeats 4000000
/-! K3: expressions that fit: numbers, get, to. -/
namespace Lf
open PySem PySem.Spec L2
open PyProof.Rows hiding St
theorem dw_is {X : Cx} {R : Rel} {σ : St} {H : Hp} {a : Expr} {c c' : Bool} (h : PW X a (tT R σ H c)) (i : c = c') : PW X a (tT R σ H c') := by rw [← i]; exact h
/-! ### data of a bounded depth, as == asks -/
def shn (n : Nat) (d : PyData) : Prop := d.canLay0 = true ∧ d.depth ≤ n
theorem shn.up {n m : Nat} {d : PyData} (h : shn n d) (l : n ≤ m) : shn m d := ⟨h.1, Nat.le_trans h.2 l⟩
theorem shn.sh {n : Nat} {d : PyData} (h : shn n d) (l : n ≤ 64 := by decide) : SeqAt.shaped d = true := by
  unfold SeqAt.shaped
  rw [h.1, decide_eq_true (Nat.le_trans h.2 l)]; rfl
theorem shn_all {n : Nat} : ∀ {ds : List PyData}, (∀ d ∈ ds, shn n d) → PyData.canLayAll0 ds = true ∧ PyData.depthAll ds ≤ n
  | [], _ => ⟨by simp [PyData.canLayAll0], by simp [PyData.depthAll]⟩
  | d :: ds, h => by
    obtain ⟨h1, h2⟩ := shn_all fun d hd => h d (List.mem_cons_of_mem _ hd)
    obtain ⟨h3, h4⟩ := h d List.mem_cons_self
    exact ⟨by simp [PyData.canLayAll0, h1, h3], by simp only [PyData.depthAll]; omega⟩
theorem shn_tup {n : Nat} {ds : List PyData} (h : ∀ d ∈ ds, shn n d) : shn (n + 1) (.tuple ds) := by
  obtain ⟨h1, h2⟩ := shn_all h
  exact ⟨by simpa [PyData.canLay0] using h1, by simp only [PyData.depth]; omega⟩
theorem shn_lst {n : Nat} {ds : List PyData} (h : ∀ d ∈ ds, shn n d) : shn (n + 1) (.list ds) := by
  obtain ⟨h1, h2⟩ := shn_all h
  exact ⟨by simpa [PyData.canLay0] using h1, by simp only [PyData.depth]; omega⟩
theorem shn_int {n : Nat} {i : Int} : shn n (.int i) := ⟨by simp [PyData.canLay0], by simp [PyData.depth]⟩
theorem shn_non {n : Nat} : shn n .none := ⟨by simp [PyData.canLay0], by simp [PyData.depth]⟩
theorem shn_bl {n : Nat} {b : Bool} : shn n (.bool b) := ⟨by simp [PyData.canLay0], by simp [PyData.depth]⟩
theorem shn_str {n : Nat} {x : Str} (h : PyData.strOk x = true) : shn n (.str x) := ⟨by simpa [PyData.canLay0] using h, by simp [PyData.depth]⟩
theorem shn_t0 {n : Nat} : shn (n + 1) (.tuple []) := shn_tup fun _ h => by cases h
theorem shn_t1 {n : Nat} {a : PyData} (h : shn n a) : shn (n + 1) (.tuple [a]) := shn_tup fun d hd => by
  rcases List.mem_cons.mp hd with rfl | hd
  · exact h
  · cases hd
theorem shn_t2 {n : Nat} {a b : PyData} (h : shn n a) (h2 : shn n b) : shn (n + 1) (.tuple [a, b]) := shn_tup fun d hd => by
  rcases List.mem_cons.mp hd with rfl | hd
  · exact h
  · rcases List.mem_cons.mp hd with rfl | hd
    · exact h2
    · cases hd
theorem shn_t3 {n : Nat} {a b c : PyData} (h : shn n a) (h2 : shn n b) (h3 : shn n c) : shn (n + 1) (.tuple [a, b, c]) := shn_tup fun d hd => by
  rcases List.mem_cons.mp hd with rfl | hd
  · exact h
  · rcases List.mem_cons.mp hd with rfl | hd
    · exact h2
    · rcases List.mem_cons.mp hd with rfl | hd
      · exact h3
      · cases hd
theorem nm_sign : ∀ c ∈ ("abcdefghijklmnopqrstuvwxyz" : Str).cps.toList, c < 0x110000 := by decide
theorem nm_str {x : Str} (h : nmOk x) : PyData.strOk x = true := by
  unfold PyData.strOk
  rw [Array.all_eq_true']
  intro c hc
  exact decide_eq_true (nm_sign c (h.2.2 c (by simpa using hc)))
theorem shn_nm {n : Nat} {x : Str} (h : nmOk x) : shn n (.str x) := shn_str (nm_str h)
theorem shn_kd {n : Nat} {k : Kd} (h : kdOk k) : shn (n + 1) (dK k) := by
  cases k with
  | rng lo hi => exact shn_t2 shn_int shn_int
  | cls c => exact shn_nm h
theorem shn_fld {n : Nat} {p : Str × Kd} (h : fldOk p) : shn (n + 2) (dFld p) := shn_t2 (shn_nm h.1) (shn_kd h.2)
theorem shn_form {n : Nat} {fm : Form} (h : formOk fm) : shn (n + 3) (dForm fm) := shn_tup fun d hd => by
  obtain ⟨p, hp, rfl⟩ := List.mem_map.mp hd
  exact shn_fld (h.1 p hp)
/-! ### expressions as data -/
inductive Ek where
  | num (z : Int) | get (f : Str) | to (f : Str)
  deriving DecidableEq
def dE : Ek → PyData
  | .num z => .int z
  | .get f => .tuple [.str "get", .tuple [.str f], .int 0]
  | .to f => .tuple [.str "to", .tuple [.str f]]
/-- a field's kind in a class of the schema -/
def kdAt (sch : Sch) (c f : Str) : Option Kd := (fnd c sch).bind (fnd f)
def eOk : Ek → Prop
  | .num _ => True
  | .get f => nmOk f
  | .to f => nmOk f
/-- the expression gives a value of this kind -/
def suits (sch : Sch) (c : Str) (k : Kd) : Ek → Prop
  | .num _ => isRng k = true
  | .get f => nmOk f ∧ isRng k = true ∧ ∃ lo hi, kdAt sch c f = some (.rng lo hi)
  | .to f => nmOk f ∧ ∃ d, k = .cls d ∧ kdAt sch c f = some (.cls d)
section
variable {P : Program} {w : World} {K : Fg} {mg : Str → Option Value} {base : Heap}
abbrev spPathKind (K : Fg) : Sp := spT (fun _ => Ex) (fun x : Sch × Str × Str => nmOk x.2.2) (fun x => [Hd K (dSch x.1), Hd K (.str x.2.1), Hd K (.tuple [.str x.2.2])]) (fun x => Hd K (opt dK (kdAt x.1 x.2.1 x.2.2)))
theorem f_path_kind (T : Tx K mg) : Fnc P w K mg base 2 "path_kind" (spPathKind K) := by
  refine ⟨T.g_path_kind, fna_of T.d_path_kind sc_path_kind bn_path_kind (fun _ => rfl) fun cdv A0 outer s H E x vs Q hr ok ha hQ => ?_⟩
  obtain ⟨sch, c, f⟩ := x
  obtain ⟨v, u, t, rfl, h1, h2, h3⟩ := all3 ha
  have ok : nmOk f := ok
  refine bs_when (t := false) rlEx (dt_is (dt_w (dw_or (c := false) (c' := false) rlEx (dt_is (dt_not (dt_val rlEx (de_isi rlEx rfl T.z_isinstance (vd 2 h3) (vty rlEx T.z_tuple) (kit_Tup _)))) rfl) fun _ =>
    dw_or (c := false) (c' := false) rlEx (dt_is (dt_eqD (d' := .tuple []) rlEx hr (vd 2 h3) (de_tup rlEx (dd_nil rlEx)) (shn_t1 (n := 0) (shn_nm ok)).sh (shn_t0 (n := 0)).sh) rfl) fun _ =>
    dw_or1 (dt_is (dt_not (dt_val rlEx (de_is (de_all (bs := [true]) rlEx rfl rfl T.z_all ?_) rfl))) rfl))) rfl) (fun z => by cases z) fun _ H1 e1 => ?_
  · exact de_is (de_lcM (own := [("field", 4)]) (g := gName 4) (eo := fun _ => PyData.bool true) rlEx rfl sc_path_kind.nd (blkOk_by (N := ["schema", "cls", "path", "kind", "field", "form"]) (sc := defScope s_path_kind) (by decide +kernel)) (src_tup (src := [f]) (f := PyData.str) rlEx (vd 2 h3)) (show 1 < sizeLine by decide) (fun _ _ => rfl)
      (fun _ _ _ _ _ => pg_name (i := 4) sc_path_kind.nd rfl (.inl rfl)) gm_name fun y z H3 hy _ hz => ⟨rfl, Ex.rfl' _, fun H4 e4 _ _ _ _ _ => cE (f_is_name T) y hr (by rw [List.mem_singleton.mp hy]; exact ok) (ar1 (vd 4 (rlEx.dp e4 hz)))⟩) rfl
  refine bs_set (i := 3) rlEx sc_path_kind.nd rfl (.inl rfl) (vdm 1 h2 e1) fun u' H2 e2 q2 => ?_
  have e12 : Ex H H2 := Ex.tr e1 e2
  refine bs_for (g := gName 4) rlEx PassesOwn.never rfl (src_tup (src := [f]) (f := PyData.str) rlEx (vd 2 (rlEx.dp e12 h3))) (pg_name (i := 4) sc_path_kind.nd rfl (.inl rfl))
    (fun H3 i σ' H' => ∃ k y z, σ' = [some v, some u, some t, some k, y, z] ∧ Ex H3 H' ∧ (i = 0 → Dp K H' k (.str c)) ∧ (i = 1 → Dp K H' k (opt dK (kdAt sch c f)))) (fun H3 e3 => ⟨u', none, none, rfl, Ex.rfl' _, fun _ => rlEx.dp e3 q2, fun z => by cases z⟩) (fun H2 i σ' H' _ _ ⟨_, _, _, _, e, _⟩ => e) ?_ ?_
  · rintro H3 i p y σ' H' H'' e3 hp ⟨k, a, b, rfl, e4, hk, -⟩ e5 hy
    obtain ⟨rfl, rfl⟩ : i = 0 ∧ f = p := by
      cases i with
      | zero => exact ⟨rfl, by simpa using hp⟩
      | succ i => simp at hp
    have ee : Ex H H'' := Ex.tr (Ex.tr (Ex.tr e12 e3) e4) e5
    refine g1 (bs_set (i := 5) rlEx sc_path_kind.nd rfl (.inl rfl) (φ := Hd K (opt dForm (fnd c sch))) (de_if (c := true) rlEx (dt_val rlEx (de_isi rlEx rfl T.z_isinstance (vd 3 (rlEx.dp e5 (hk rfl))) (vty rlEx T.z_str) (kit_Str (.str c)))) (fun _ => ?_) (fun z => by cases z)) fun fv H5 e6 qf => ?_)
    · exact cE (f_form_of T) (sch, c) hr trivial (ar2 (vd 0 (rlEx.dp ee h1)) (vd 3 (rlEx.dp e5 (hk rfl))))
    · refine bs_set (i := 3) rlEx sc_path_kind.nd rfl (.inl rfl) (φ := Hd K (opt dK (kdAt sch c f))) (de_if (c := isNon (opt dForm (fnd c sch))) rlEx (dt_isN rlEx (vd 5 qf)) (fun z => ?_) (fun z => ?_)) fun kv H6 e7 qk => bs_nil ⟨kv, some y, some fv, rfl, Ex.tr (Ex.tr (Ex.tr e4 e5) e6) e7, (fun z => by cases z), fun _ => qk⟩
      · have : kdAt sch c f = none := by
          unfold kdAt
          cases q : fnd c sch with
          | none => rfl
          | some fm => rw [q] at z; cases z
        rw [this]
        exact de_non rlEx
      · cases q : fnd c sch with
        | none => rw [q] at z; cases z
        | some fm =>
          rw [q] at qf
          refine de_is (cE (f_kind_of T) (fm, f) hr trivial (ar2 (vd 5 qf) (vd 4 (rlEx.dp e6 hy)))) ?_
          unfold kdAt
          rw [q]; rfl
  · rintro H3 σ' H' e3 ⟨k, a, b, rfl, e4, -, hk⟩
    exact bs_ret (vd 3 (hk rfl)) rlEx fun v' H4 e6 q => hQ v' H4 (Ex.tr (Ex.tr (Ex.tr e12 e3) e4) e6) q
theorem inV_strs {x : Str} : ∀ {ws : List Str}, inV (.str x) (ws.map V.str) = decide (x ∈ ws)
  | [] => rfl
  | y :: ws => by
    have t := inV_strs (x := x) (ws := ws)
    unfold inV at t ⊢
    rw [List.map_cons, List.any_cons, t]
    by_cases e : y = x
    · subst e
      simp [eqV]
    · have : ¬ x = y := fun z => e z.symm
      simp [eqV, e, this]
theorem flat_strs (ws : List Str) : (ws.map V.str).all flatV = true := by
  rw [List.all_map, List.all_eq_true]; intro _ _; rfl
theorem atI_0 {α : Type} {d : α} {ds : List α} : atI (d :: ds) 0 = some d := by
  unfold atI ixN
  simp
abbrev spWorded (K : Fg) : Sp := spT (fun _ => Ex) (fun x : (Str × List PyData) × List Str × Nat => True) (fun x => [Hd K (.tuple (.str x.1.1 :: x.1.2)), Hd K (.tuple (x.2.1.map PyData.str)), Hd K (.int (x.2.2 : Nat))]) (fun x => Hd K (.bool (decide (x.1.2.length = x.2.2) && decide (x.1.1 ∈ x.2.1))))
theorem dpAll_strs {K : Fg} {H : Hp} : ∀ {ws : List Str} {xs : List V}, DpAll K H xs (ws.map PyData.str) → xs = ws.map V.str
  | [], _, h => by cases h; rfl
  | b :: bs, _, h => by
    cases h with
    | cons h1 h2 =>
      cases dp_str h1
      rw [dpAll_strs h2]; rfl
theorem f_is_worded (T : Tx K mg) : Fnc P w K mg base 1 "is_worded" (spWorded K) := by
  refine ⟨T.g_is_worded, fna_of T.d_is_worded sc_is_worded bn_is_worded (fun _ => rfl) fun cdv A0 outer s H E x vs Q hr _ ha hQ => ?_⟩
  obtain ⟨⟨x0, r⟩, ws, m⟩ := x
  obtain ⟨v, u, t, rfl, h1, h2, h3⟩ := all3 ha
  have el : decide ((((PyData.str x0 :: r).length : Nat) : Int) = (m : Int) + 1) = decide (r.length = m) := by
    rw [List.length_cons]
    exact decide_eq_decide.mpr ⟨fun z => by omega, fun z => by omega⟩
  refine bs_when (t := !decide (r.length = m)) rlEx (dt_is (dt_w (dw_or (c := false) (c' := !decide (r.length = m)) rlEx (dt_is (dt_not (dt_val rlEx (de_isi rlEx rfl T.z_isinstance (vd 0 h1) (vty rlEx T.z_tuple) (kit_Tup _)))) rfl) fun _ =>
    dw_is (dw_or (c := !decide (r.length = m)) (c' := false) rlEx (dt_is (dt_neI rlEx (de_lenT rlEx rfl T.z_len (vd 0 h1)) (de_opI0 rlEx op_add (vd 2 h3) (de_int rlEx))) (congrArg not el)) fun _ =>
    dw_or1 (dt_is (dt_not (dt_val rlEx (de_isi rlEx rfl T.z_isinstance (de_ixT (d := .str x0) rlEx (vd 0 h1) (de_int rlEx) atI_0) (vty rlEx T.z_str) (kit_Str _)))) rfl)) (by simp))) rfl) (fun z H1 e1 => ?_) fun z H1 e1 => ?_
  · refine bs_ret (de_bl rlEx) rlEx fun v' H4 e6 q => hQ v' H4 (Ex.tr e1 e6) ?_
    show Dp K H4 v' (.bool (decide (r.length = m) && decide (x0 ∈ ws)))
    rw [show decide (r.length = m) = false by simpa using z]
    exact q
  · refine bs_ret (φ := Hd K (.bool (decide (x0 ∈ ws)))) (de_cmp rlEx op_in_seq (φ := Hd K (.str x0)) (de_ixT (d := .str x0) rlEx (vdm 0 h1 e1) (de_int rlEx) atI_0) (mo_d rlEx) (vdm 1 h2 e1) rfl fun a b H2 _ p q Q k => ?_) rlEx fun v' H4 e6 q => hQ v' H4 (Ex.tr e1 e6) ?_
    · cases dp_str p
      obtain ⟨l, xs, rfl, hs, hd⟩ := dp_tup q
      cases dpAll_strs hd
      refine ⟨l, _, rfl, .inr hs, rfl, flat_strs ws, ?_⟩
      show Q (.bl (inV (.str x0) (ws.map V.str))) H2
      rw [inV_strs]
      exact k _ H2 (Ex.rfl' _) (.bl _)
    · show Dp K H4 v' (.bool (decide (r.length = m) && decide (x0 ∈ ws)))
      rw [show decide (r.length = m) = true by simpa using z]
      exact q
end
end Lf
set_option maxHeartbeats 4000000
/-! K4: the parts of an expression, whether it fits. -/
namespace Lf
open PySem PySem.Spec L2
open PyProof.Rows hiding St
section
variable {P : Program} {w : World} {K : Fg} {mg : Str → Option Value} {base : Heap}
theorem wd0 {X : Cx} {σ : St} {H : Hp} {p1 pos : Pos} (x : Str) : PE X (.Tuple [.Constant (.str x) 0 p1] 0 pos) (tG Ex σ H (Hd X.K (.tuple ([x].map PyData.str)))) := de_tup rlEx (dd_cons rlEx (de_str rlEx) (dd_nil rlEx)) (show 1 ≤ sizeLine by decide)
theorem wdb {x : Str} {r : List PyData} {ws : List Str} {m n : Nat} {b : Bool} (hl : r.length = n) (hb : (decide (n = m) && decide (x ∈ ws)) = b) : PyData.bool (decide (((x, r), ws, m).1.2.length = ((x, r), ws, m).2.2) && decide (((x, r), ws, m).1.1 ∈ ((x, r), ws, m).2.1)) = .bool b := by
  rw [← hb, ← hl]
abbrev spNumParts (K : Fg) : Sp := spT (fun _ => Ex) (fun x : Sch × Str × Ek => ∃ k, isRng k = true ∧ suits x.1 x.2.1 k x.2.2) (fun x => [Hd K (dSch x.1), Hd K (.str x.2.1), Hd K (dE x.2.2)]) (fun _ => Hd K (.tuple []))
theorem f_number_parts (T : Tx K mg) : Fnc P w K mg base 3 "number_parts" (spNumParts K) := by
  refine ⟨T.g_number_parts, fna_of T.d_number_parts sc_number_parts bn_number_parts (fun _ => rfl) fun cdv A0 outer s H E x vs Q hr ok ha hQ => ?_⟩
  obtain ⟨sch, c, e⟩ := x
  obtain ⟨v, u, t, rfl, h1, h2, h3⟩ := all3 ha
  obtain ⟨kk, kr, ok⟩ := ok
  cases e with
  | num z =>
    refine bs_when (t := true) rlEx (dt_val rlEx (cE (f_is_integer T) (PyData.int z) hr trivial (ar1 (vd 2 h3)))) (fun _ H1 e1 => ?_) (fun z => by cases z)
    exact bs_ret (de_tup rlEx (dd_nil rlEx)) rlEx fun v' H4 e6 q => hQ v' H4 (Ex.tr e1 e6) q
  | to f =>
    obtain ⟨-, d, rfl, -⟩ := ok
    cases kr
  | get f =>
    obtain ⟨nf, -, lo, hi, hk⟩ := ok
    have h3 : Dp K H t (.tuple (.str "get" :: [.tuple [.str f], .int 0])) := h3
    obtain ⟨aw, gw, hw⟩ := T.c_NUMBER_WORDS
    refine bs_when (t := false) rlEx (dt_val rlEx (cE (f_is_integer T) (PyData.tuple (.str "get" :: [.tuple [.str f], .int 0])) hr trivial (ar1 (vd 2 h3)))) (fun z => by cases z) fun _ H1 e1 => ?_
    have g3 := rlEx.dp e1 h3
    refine bs_when (t := false) rlEx (dt_val rlEx (de_is (cE (f_is_worded T) (("get", [.tuple [.str f], .int 0]), ["+", "-", "*", "least", "most"], 2) hr trivial (ar3 (vd 2 g3) (vgl (.ref aw) (.tuple ((["+", "-", "*", "least", "most"] : List Str).map PyData.str)) gw rfl fun H1 => .tup (hw H1) (by
      refine .cons (.str _) (.cons (.str _) (.cons (.str _) (.cons (.str _) (.cons (.str _) .nil)))))) (de_int rlEx))) (wdb (n := 2) rfl (by decide +kernel)))) (fun z => by cases z) fun _ H2 e2 => ?_
    have g4 := rlEx.dp e2 g3
    refine bs_when (t := false) rlEx (dt_val rlEx (de_is (cE (f_is_worded T) (("get", [.tuple [.str f], .int 0]), ["if"], 3) hr trivial (ar3 (vd 2 g4) (wd0 "if") (de_int rlEx))) (wdb (n := 2) rfl (by decide +kernel)))) (fun z => by cases z) fun _ H3 e3 => ?_
    have g5 := rlEx.dp e3 g4
    have ee : Ex H H3 := Ex.tr (Ex.tr e1 e2) e3
    refine bs_when (t := true) rlEx (dt_w (dw_and (c := true) (c' := true) rlEx (dt_val rlEx (de_is (cE (f_is_worded T) (("get", [.tuple [.str f], .int 0]), ["get"], 2) hr trivial (ar3 (vd 2 g5) (wd0 "get") (de_int rlEx))) (wdb (n := 2) rfl (by decide +kernel)))) fun _ =>
      dw_and1 (dt_val rlEx (cE (f_is_integer T) (PyData.int 0) hr trivial (ar1 (de_ixT rlEx (vd 2 g5) (de_int rlEx) rfl)))))) (fun _ H4 e4 => ?_) (fun z => by cases z)
    have g6 := rlEx.dp e4 g5
    refine bs_ret (φ := Hd K (.tuple [])) (de_if (c := true) rlEx (dt_val rlEx (de_isi (d := opt dK (kdAt sch c f)) rlEx rfl T.z_isinstance (cE (f_path_kind T) (sch, c, f) hr nf (ar3 (vd 0 (rlEx.dp (Ex.tr ee e4) h1)) (vd 1 (rlEx.dp (Ex.tr ee e4) h2)) (de_ixT rlEx (vd 2 g6) (de_int rlEx) rfl))) (vty (T := "tuple") rlEx T.z_tuple) ?_)) (fun _ => de_tup rlEx (dd_nil rlEx)) (fun z => by cases z)) rlEx fun v' H5 e6 q => hQ v' H5 (Ex.tr (Ex.tr ee e4) e6) q
    rw [hk]
    exact kit_Tup _
abbrev spLnkParts (K : Fg) : Sp := spT (fun _ => Ex) (fun x : Sch × Str × Str × Str => nmOk x.2.2.2 ∧ kdAt x.1 x.2.1 x.2.2.2 = some (.cls x.2.2.1)) (fun x => [Hd K (dSch x.1), Hd K (.str x.2.1), Hd K (.str x.2.2.1), Hd K (dE (.to x.2.2.2))]) (fun _ => Hd K (.tuple []))
theorem f_link_parts (T : Tx K mg) : Fnc P w K mg base 3 "link_parts" (spLnkParts K) := by
  refine ⟨T.g_link_parts, fna_of T.d_link_parts sc_link_parts bn_link_parts (fun _ => rfl) fun cdv A0 outer s H E x vs Q hr ok ha hQ => ?_⟩
  obtain ⟨sch, c, d, f⟩ := x
  obtain ⟨v, u, t, o, rfl, h1, h2, h4, h3⟩ := all4 ha
  obtain ⟨nf, hk⟩ := ok
  have h3 : Dp K H o (.tuple (.str "to" :: [.tuple [.str f]])) := h3
  refine bs_when (t := false) rlEx (dt_is (dt_isN rlEx (vd 3 h3)) rfl) (fun z => by cases z) fun _ H1 e1 => ?_
  have g3 := rlEx.dp e1 h3
  refine bs_when (t := false) rlEx (dt_val rlEx (de_is (cE (f_is_worded T) (("to", [.tuple [.str f]]), ["self"], 0) hr trivial (ar3 (vd 3 g3) (wd0 "self") (de_int rlEx))) (wdb (n := 1) rfl (by decide +kernel)))) (fun z => by cases z) fun _ H2 e2 => ?_
  have g4 := rlEx.dp e2 g3
  refine bs_when (t := false) rlEx (dt_val rlEx (de_is (cE (f_is_worded T) (("to", [.tuple [.str f]]), ["if"], 3) hr trivial (ar3 (vd 3 g4) (wd0 "if") (de_int rlEx))) (wdb (n := 1) rfl (by decide +kernel)))) (fun z => by cases z) fun _ H3 e3 => ?_
  have g5 := rlEx.dp e3 g4
  have ee : Ex H H3 := Ex.tr (Ex.tr e1 e2) e3
  refine bs_ret (φ := Hd K (.tuple [])) (de_if (c := true) rlEx (dt_w (dw_and (c := true) (c' := true) rlEx (dt_val rlEx (de_is (cE (f_is_worded T) (("to", [.tuple [.str f]]), ["to"], 1) hr trivial (ar3 (vd 3 g5) (wd0 "to") (de_int rlEx))) (wdb (n := 1) rfl (by decide +kernel)))) fun _ =>
    dw_and1 (dt_is (dt_eqS (x := d) rlEx (de_is (cE (f_path_kind T) (sch, c, f) hr nf (ar3 (vd 0 (rlEx.dp ee h1)) (vd 1 (rlEx.dp ee h2)) (de_ixT rlEx (vd 3 g5) (de_int rlEx) rfl))) (by rw [hk]; rfl)) (vd 2 (rlEx.dp ee h4))) (by simp)))) (fun _ => de_tup rlEx (dd_nil rlEx)) (fun z => by cases z)) rlEx fun v' H5 e6 q => hQ v' H5 (Ex.tr ee e6) q
theorem nm_not {x : Str} (h : nmOk x) : ¬ x = ("condition" : Str) := fun e => by
  have := h.2.1
  rw [e] at this
  exact absurd this (by decide)
abbrev spFitParts (K : Fg) : Sp := spT (fun _ => Ex) (fun x : Sch × Str × Kd × Ek => kdOk x.2.2.1 ∧ suits x.1 x.2.1 x.2.2.1 x.2.2.2) (fun x => [Hd K (dSch x.1), Hd K (.str x.2.1), Hd K (dK x.2.2.1), Hd K (dE x.2.2.2)]) (fun _ => Hd K (.tuple []))
theorem f_fitting_parts (T : Tx K mg) : Fnc P w K mg base 4 "fitting_parts" (spFitParts K) := by
  refine ⟨T.g_fitting_parts, fna_of T.d_fitting_parts sc_fitting_parts bn_fitting_parts (fun _ => rfl) fun cdv A0 outer s H E x vs Q hr ok ha hQ => ?_⟩
  obtain ⟨sch, c, k, e⟩ := x
  obtain ⟨v, u, t, o, rfl, h1, h2, h3, h4⟩ := all4 ha
  obtain ⟨ko, ok⟩ := ok
  have ko : kdOk k := ko
  have h3 : Dp K H t (dK k) := h3
  obtain ⟨tc, gc⟩ := T.c_CONDITION
  have ev : PyData.eqv (dK k) (.str "condition") = false := by
    cases k with
    | rng lo hi => rfl
    | cls c => simpa [dK, PyData.eqv] using nm_not ko
  refine bs_when (t := false) rlEx (dt_is (dt_eqD (d' := .str "condition") rlEx hr (vd 2 h3) (vgl (.str "condition") _ gc ⟨_, rfl⟩ fun _ => .str _) (shn_kd (n := 0) ko).sh (shn_str (n := 0) (by decide +kernel)).sh) ev) (fun z => by cases z) fun _ H1 e1 => ?_
  refine bs_ret (φ := Hd K (.tuple [])) (de_if (c := isRng k) rlEx (dt_val rlEx (de_isi (d := dK k) rlEx rfl T.z_isinstance (vdm 2 h3 e1) (vty (T := "tuple") rlEx T.z_tuple) (by cases k <;> exact kit_Tup _))) (fun z => ?_) (fun z => ?_)) rlEx fun v' H5 e6 q => hQ v' H5 (Ex.tr e1 e6) q
  · exact cE (f_number_parts T) (sch, c, e) hr ⟨k, z, ok⟩ (ar3 (vdm 0 h1 e1) (vdm 1 h2 e1) (vdm 3 h4 e1))
  · cases k with
    | rng lo hi => cases z
    | cls d =>
      cases e with
      | num z' => cases ok
      | get f =>
        obtain ⟨-, z', -⟩ := ok
        cases z'
      | to f =>
        obtain ⟨nf, d', e', hk⟩ := ok
        cases e'
        exact cE (f_link_parts T) (sch, c, d, f) hr ⟨nf, hk⟩ (ar4 (vdm 0 h1 e1) (vdm 1 h2 e1) (vdm 2 h3 e1) (vdm 3 h4 e1))
end
end Lf
set_option maxHeartbeats 4000000
/-! Lay5: own lists, while, try, t[::-1] of (). -/
namespace Lf
open PySem PySem.Spec L2
open PyProof.Rows hiding St
section
variable {prog : Program} {w : World} {A : Around} {E : Value → Shared → Prop} {s : Shared}
/-- an empty tuple, turned round -/
theorem back_empty {t z : Addr} {u1 u2 : Value} {k : Tok} {Q : Value → Shared → Prop} (p : IsTup s.heap t #[]) (isl : s.heap.IsSliceOf z u1 u2 (.int (-1) k)) (n1 : u1 = .none) (n2 : u2 = .none)
    (q : Q (.ref s.heap.objs.size) { s with heap := s.heap.push { cls := .type "tuple", data := .seq #[] } }) : wpAny (model prog w) A (getItem (.ref t) (.ref z)) Q E s := by
  subst n1 n2
  have hz0 : sizeOk (.seq (#[] : Array Value)) := Nat.zero_le _
  obtain ⟨ob, e1, e2, e3⟩ := id isl
  have tyz : s.TypeIs (.ref z) "slice" := ⟨ob, e1, e2⟩
  unfold getItem
  try with_reducible refine wpAny_holding ?_
  first | refine wpAny_bind (wpAny_pure ?_) | skip
  refine wpAny_bind (wpAny_sequenceKey p.typeIs (by decide) ?_)
  refine wpAny_bind (wpAny_callSpecial?_slot (name := Str.ofString "__getitem__") p.typeIs PyProof.Rows.slot_tuple_getitem (wpAny_call_entry PyProof.Rows.slot_tuple_getitem p.typeIs PyProof.Rows.entry_tuple_getitem ?_ (PyProof.Rows.args_tuple_getitem _ _)))
  show wpAny _ _ (Builtin.Tuple.tupleItemsOf (.ref t) >>= _) _ _ s
  refine wpAny_bind (tupleItemsOf_ p (wpAny_bind (wpAny_typeOf tyz ?_)))
  rw [if_pos (by decide)]
  refine wpAny_bind ?_
  · unfold Builtin.Slice.sliceApplied Builtin.Slice.sliceFields
    refine wpAny_bind (wpAny_bind (wpAny_field e1 e3 (x := .none) rfl (wpAny_bind (wpAny_field e1 e3 (x := .none) rfl (wpAny_bind (wpAny_field e1 e3 (x := .int (-1) k) rfl (wpAny_pure (wpAny_bind (slicePart_int ?_)))))))))
    show wpAny _ _ (if ((-1 : Int) == 0) = true then _ else _) _ _ s
    rw [if_neg (by decide)]
    refine wpAny_bind (slicePart_none (wpAny_bind (slicePart_none (wpAny_bind (wpAny_pure (wpAny_pure ?_))))))
    show wpAny _ _ (if ((-1 : Int) == 0 && (-1 : Int) == 1 && (0 : Nat) == 0) = true then _ else _) _ _ s
    rw [if_neg (by decide)]
    first
      | exact wpAny_bind (m := Builtin.Tuple.tupleExact _) (wpAny_newObj_type (wpAny_pure ⟨_, rfl, wpAny_pure q⟩) hz0)
      | exact wpAny_bind (m := Builtin.Tuple.tupleExact _) (wpAny_newObj_type (wpAny_bind (wpAny_pure (wpAny_pure ⟨_, rfl, wpAny_pure q⟩))) hz0)
end
section
variable {X : Cx} {R : Rel} {σ : St} {H : Hp} {D : Ends} {e : Expr} {es : List Expr} {rest body : List Stmt} {p pos apos : Pos} {φ ψ : Pv}
/-- t[::-1], t = () -/
theorem pe_back0 {te : TE} {k : Nat} {p1 p2 p3 : Pos} (he : PE X e te) : PE X (.Subscript e (.Slice none none (some (.UnaryOp .USub (.Constant (.int 1) k p1) p2)) p3) pos) (fun σ H Q => te σ H fun x H1 => ∃ a, x = .ref a ∧ SqT X.K H1 a [] ∧ ∀ q, H1 q = none → Q (.ref q) (upd H1 q (.tup []))) := by
  refine ⟨fun pins s σ H Q I h => Subscript_ (thn (he.run pins s σ H _ I h) fun v s1 ⟨x, H1, I1, r1, a, ex, hx, q⟩ => ?_)⟩
  subst ex
  cases r1
  have neg : PO X (some (.UnaryOp .USub (.Constant (.int 1) k p1) p2)) (tPart (tUn (rU fun i => .int (-i)) (tC (.int 1)))) := po_some (pe_un un_neg pe_int)
  refine wpAny_Slice (thn (po_none.run pins s1 σ H1 (fun o G => o = none ∧ G = H1) I1 ⟨rfl, rfl⟩) fun va s2 ⟨_, H2, I2, pa, ea, ha⟩ => thn (po_none.run pins s2 σ H2 (fun o G => o = none ∧ G = H1) I2 ⟨rfl, ha⟩) fun vb s3 ⟨_, H3, I3, pb, eb, hb⟩ =>
    thn (neg.run pins s3 σ H3 (fun o G => o = some (-1) ∧ G = H1) I3 ⟨1, rfl, -1, rfl, rfl, hb⟩) fun vc s4 ⟨_, H4, I4, pc, ec, hc⟩ => ?_)
  subst ea eb ec hc
  cases pa; cases pb
  cases pc with
  | int _ t =>
    have J : Inv X pins σ H4 { s4 with heap := s4.heap.push { cls := .type "slice", data := .fields #[.none, .none, .int (-1) t] } } := I4.kept (t' := s4.toks) fun b ob z => Heap.get?_push_of_some _ z
    obtain ⟨its, r, ht, hz⟩ := J.tuple hx
    cases r
    show wpAny (model X.prog X.w) X.A (subscriptTail e (.Slice none none (some (.UnaryOp .USub (.Constant (.int 1) k p1) p2)) p3) (.ref a) (.ref s4.heap.objs.size)) (EP X pins σ Q) X.xe _
    refine tail_any (ops := [.ref a, .ref s4.heap.objs.size]) ht.typeIs PyProof.Rows.slot_tuple_getitem.lookup ?_ (by with_unfolding_all rfl)
    refine back_empty ht (Heap.IsSliceOf.new _ .none .none (.int (-1) t)) rfl rfl ⟨.ref _, _, J.laid (t' := s4.toks) (o := .tup []) (fun b ob z => Heap.get?_push_of_some _ z) (Nat.le_refl _) ⟨Nat.zero_le _, [], .nil, IsTup.new _ _⟩, rfl, q _ (J.hok.fresh (Nat.le_refl _))⟩
theorem de_back0 {k : Nat} {p1 p2 p3 : Pos} (r : Rl R) (he : PE X e (tG R σ H (Hd X.K (.tuple [])))) : PE X (.Subscript e (.Slice none none (some (.UnaryOp .USub (.Constant (.int 1) k p1) p2)) p3) pos) (tG R σ H (Hd X.K (.tuple []))) :=
  PE.imp (pe_back0 he) fun _ _ _ ⟨e1, h1, k⟩ => ⟨e1, h1, fun v H2 h2 d => by
    obtain ⟨a, xs, rfl, hs, hd⟩ := dp_tup d
    cases hd
    exact ⟨a, rfl, hs, fun q hq => k _ _ (r.trans h2 (r.ex (Ex.new hq))) (.tup (.inl (.inl upd_same)) .nil)⟩⟩
/-! ### statements over one's own lists -/
theorem own_ty {K : Fg} {l : Addr} {xs : List V} (h : H l = some (.lst xs)) : tyV K "list" (.ref l) H := .inl ⟨rfl, xs, .inl (.inl h)⟩
/-- the local at slot i holds the list at l -/
theorem bs_append {i : Nat} {x : Str} {l : Addr} {xs : List V} (r : Rl R) (hs : σ[i]? = some (some (.ref l))) (hN : X.N[i]? = some x) (vis : Vis X.env.scope x) (hl : H l = some (.lst xs)) (hz : xs.length < sizeLine) (m : Mo R φ) (he : PE X e (tG R σ H φ))
    (k : ∀ v H', R H H' → φ v H' → H' l = some (.lst xs) → PSs X rest (tAt σ (upd H' l (.lst (xs ++ [v]))) D)) (hd : (x == ("__debug__" : Str)) = false := by decide) (hcd : (x == ("__classdict__" : Str)) = false := by decide)
    (hbase : attributeBase (.Name x p) "append" X.env (eval (.Name x p) X.env) = eval (.Name x p) X.env := by rfl)
    {cpos : Pos} (hfew : ((backTo cpos (starEach [e] X.env)).all (fun x => !x.1) && (backToKw cpos (keywordEach [] X.env)).all (fun x => x.1.isSome) && decide ([e].length + ([] : List Keyword).length + (if ([] : List Keyword).isEmpty then 0 else 1) < 30)) = true := by rfl)
    (hline : (apos.endLine == cpos.line) = true := by rfl) (he1 : starEach [e] X.env = (false, eval e X.env) :: starEach [] X.env := by rfl) (hsw : swapsWith (.Call (.Attribute (.Name x p) "append" apos) [e] [] cpos) none pos.line X.env = pure false := by rfl) :
    PSs X (.Expr (.Call (.Attribute (.Name x p) "append" apos) [e] [] cpos) pos :: rest) (tAt σ H D) := by
  refine bs_seq (ps_expr (pe_bm PySem.F.plainAttrs_list PySem.F.slot_list_append PySem.F.type_list_append mt_append (pe_var (i := i) hN vis hd hcd) (da_cons r m he (da_nil r) he1) hbase hfew hline he1) hsw) ?_
  refine ⟨.ref l, hs, own_ty hl, rfl, r.refl _, fun vs H' h' q => ?_⟩
  obtain ⟨v, rfl, hv⟩ := all1 q
  have hl' := r.keep h' hl ⟨(fun _ z => by cases z), fun _ z => by cases z⟩
  exact ⟨l, xs, v, rfl, rfl, hl', hz, k v H' h' hv hl'⟩
/-- l.extend(m), both one's own -/
theorem bs_extend {i : Nat} {x : Str} {l : Addr} {xs : List V} {ψ : List V → Hp → Prop} (r : Rl R) (hs : σ[i]? = some (some (.ref l))) (hN : X.N[i]? = some x) (vis : Vis X.env.scope x) (hl : H l = some (.lst xs)) (m : ∀ zs a b, R a b → ψ zs a → ψ zs b)
    (he : PE X e (tG R σ H (fun v H' => ∃ b zs, v = .ref b ∧ H' b = some (.lst zs) ∧ xs.length + zs.length ≤ sizeLine ∧ ψ zs H')))
    (k : ∀ zs H', R H H' → ψ zs H' → H' l = some (.lst xs) → PSs X rest (tAt σ (upd H' l (.lst (xs ++ zs))) D)) (hd : (x == ("__debug__" : Str)) = false := by decide) (hcd : (x == ("__classdict__" : Str)) = false := by decide)
    (hbase : attributeBase (.Name x p) "extend" X.env (eval (.Name x p) X.env) = eval (.Name x p) X.env := by rfl)
    {cpos : Pos} (hfew : ((backTo cpos (starEach [e] X.env)).all (fun x => !x.1) && (backToKw cpos (keywordEach [] X.env)).all (fun x => x.1.isSome) && decide ([e].length + ([] : List Keyword).length + (if ([] : List Keyword).isEmpty then 0 else 1) < 30)) = true := by rfl)
    (hline : (apos.endLine == cpos.line) = true := by rfl) (he1 : starEach [e] X.env = (false, eval e X.env) :: starEach [] X.env := by rfl) (hsw : swapsWith (.Call (.Attribute (.Name x p) "extend" apos) [e] [] cpos) none pos.line X.env = pure false := by rfl) :
    PSs X (.Expr (.Call (.Attribute (.Name x p) "extend" apos) [e] [] cpos) pos :: rest) (tAt σ H D) := by
  refine bs_seq (ps_expr (pe_bm PySem.F.plainAttrs_list PySem.F.slot_list_extend PySem.F.type_list_extend mt_extend (pe_var (i := i) hN vis hd hcd) (da_cons r (fun v a b h ⟨c, zs, e1, e2, e3, e4⟩ => ⟨c, zs, e1, r.keep h e2 ⟨(fun _ z => by cases z), fun _ z => by cases z⟩, e3, m _ _ _ h e4⟩) he (da_nil r) he1) hbase hfew hline he1) hsw) ?_
  refine ⟨.ref l, hs, own_ty hl, rfl, r.refl _, fun vs H' h' q => ?_⟩
  obtain ⟨v, rfl, b, zs, rfl, hb, hz, hv⟩ := all1 q
  have hl' := r.keep h' hl ⟨(fun _ z => by cases z), fun _ z => by cases z⟩
  exact ⟨l, b, xs, zs, rfl, rfl, hl', hb, hz, k zs H' h' hv hl'⟩
/-- while: told by a measure -/
theorem bs_while {c : Expr} (hp : PassesOwn (model X.prog X.w) X.A X.env X.xe) (W : Nat → St → Hp → Prop) (m0 : Nat) (h0 : W m0 σ H) (b : Nat → St → Hp → Bool) (hc : ∀ m σ' H', W m σ' H' → PT X c (tT R σ' H' (b m σ' H'))) (r : Rl R)
    (hb : ∀ m σ' H' H'', W m σ' H' → b m σ' H' = true → R H' H'' → PSs X body (tAt σ' H'' { D with nx := fun σ2 H2 => ∃ m', m' < m ∧ W m' σ2 H2, ct := fun σ2 H2 => ∃ m', m' < m ∧ W m' σ2 H2, bk := fun σ2 H2 => PSs X rest (tAt σ2 H2 D) }))
    (hd : ∀ m σ' H' H'', W m σ' H' → b m σ' H' = false → R H' H'' → PSs X rest (tAt σ' H'' D)) : PSs X (.While c body [] pos :: rest) (tAt σ H D) := by
  refine bs_seq (ps_while (tc := fun σ' H' Q => ∃ m, W m σ' H' ∧ ∀ H'', R H' H'' → Q (b m σ' H') H'') (tb := fun D σ H => PSs X body (tAt σ H D)) hp ⟨fun pins s σ' H' Q I ⟨m, w, q⟩ => (hc m σ' H' w).run pins s σ' H' Q I ⟨rfl, r.refl _, q⟩⟩ PSs.self) ?_
  refine ⟨W, ⟨m0, h0⟩, fun m σ' H' w => ⟨m, w, fun H'' h => ?_⟩⟩
  cases z : b m σ' H' with
  | true => exact ⟨fun σ2 H2 => ∃ m', m' < m ∧ W m' σ2 H2, fun _ _ q => q, hb m σ' H' H'' w z h⟩
  | false => exact hd m σ' H' H'' w z h
/-- try .. except .., where nothing is raised -/
theorem bs_try {x : Str} {c : Value} {b₀ : Stmt} {suite : List Stmt} {np pos' : Pos} {W : WX} (tk : Takes X W) (hs : X.stack = X.env :: X.outer) (hf : X.env.frame = some X.env.locals) (hc : Names X x c)
    (h : ∀ (pn : List (Addr × Obj)) (xe : Value → Shared → Prop), PassesOwn (model X.prog X.w) X.A X.env xe → PSs (X.tr pn xe) body (tAt σ H { D with nx := fun σ' H' => PSs X rest (tAt σ' H' D) })) :
    PSs X (.Try body [.ExceptHandler (some (.Name x np)) none (b₀ :: suite) pos'] [] [] pos :: rest) (tAt σ H D) :=
  bs_seq (ps_try_only (tb := fun _ D σ H => ∀ (pn : List (Addr × Obj)) (xe : Value → Shared → Prop), PassesOwn (model X.prog X.w) X.A X.env xe → PSs (X.tr pn xe) body (tAt σ H D)) (ts := fun _ _ _ _ _ _ => False) hs hf hc tk
    (fun _ pn xe _ hp => ⟨fun pins s σ H D I q => (q pn xe hp).run pins s σ H D I ⟨rfl, rfl, rfl⟩⟩) (fun _ _ _ _ _ _ _ => ⟨fun _ _ _ _ _ _ q => q.elim⟩)) h
end
end Lf
set_option maxHeartbeats 4000000
/-! Lay6: x += n, l.pop(), a comprehension over nothing. -/
namespace Lf
open PySem PySem.Spec L2
open PyProof.Rows hiding St
section
variable {X : Cx} {R : Rel} {σ : St} {H : Hp} {D : Ends} {e : Expr} {es : List Expr} {rest body : List Stmt} {p pos apos : Pos} {φ ψ : Pv}
theorem bs_addI {i : Nat} {x : Str} {a b : Int} (r : Rl R) (hN : X.N.Nodup) (hi : X.N[i]? = some x) (hx : Loc X.env.scope x) (hs : σ[i]? = some (some (.int a))) (he : PE X e (tG R σ H (Hd X.K (.int b)))) (k : ∀ H', R H H' → PSs X rest (tAt (σ.set i (some (.int (a + b)))) H' D))
    (hf : X.fn x = true ∨ X.env.scope.names.lookup x = some .local := by first | exact .inl rfl | exact .inr rfl) : PSs X (.AugAssign (.Name x p) .Add e pos :: rest) (tAt σ H D) :=
  bs_seq (ps_aug (i := i) hN hi hx he ip_add hf) ⟨.int a, hs, rfl, r.refl _, fun v H' h q => by cases dp_int q; exact ⟨a, b, rfl, rfl, k H' h⟩⟩
/-- tg = l.pop() -/
theorem bs_pop {tg : Expr} {g : TG} {i : Nat} {x : Str} {l : Addr} {xs : List V} {y : V} (hg : PG X tg g) (hs : σ[i]? = some (some (.ref l))) (hN : X.N[i]? = some x) (vis : Vis X.env.scope x) (hl : H l = some (.lst (xs ++ [y])))
    (k : g y σ (upd H l (.lst xs)) fun σ2 H2 => PSs X rest (tAt σ2 H2 D)) (hd : (x == ("__debug__" : Str)) = false := by decide) (hcd : (x == ("__classdict__" : Str)) = false := by decide)
    (hbase : attributeBase (.Name x p) "pop" X.env (eval (.Name x p) X.env) = eval (.Name x p) X.env := by rfl) {cpos : Pos} (hline : (apos.endLine == cpos.line) = true := by rfl)
    (hsw : swapsWithSole [tg] (.Call (.Attribute (.Name x p) "pop" apos) [] [] cpos) pos.line X.env = pure false := by rfl) (hw : swappedStores [tg] (.Call (.Attribute (.Name x p) "pop" apos) [] [] cpos) X.env = pure none := by rfl) (h1 : (assignEach [tg] X.env).map (·.2) = [assign tg X.env] := by rfl) :
    PSs X (.Assign [tg] (.Call (.Attribute (.Name x p) "pop" apos) [] [] cpos) pos :: rest) (tAt σ H D) := by
  refine bs_seq (ps_asg (pe_bm0 PySem.F.plainAttrs_list PySem.F.slot_list_pop PySem.F.type_list_pop mt_pop (pe_var (i := i) hN vis hd hcd) hbase hline) hg hsw hw h1) ⟨.ref l, hs, own_ty hl, l, xs ++ [y], y, rfl, rfl, hl, ?_, ?_⟩
  · simp
  · rw [List.dropLast_concat]; exact k
/-- [.. for .. in nothing], a list of one's own -/
theorem de_lc0 {α : Type} {ι : α → Pv} {elt tg iter : Expr} {scope : Scope} {own : List (Str × Nat)} {g : TG} (r : Rl R) (hc : X.calm = true) (hN : X.N.Nodup) (ok : BlkOk X.N X.env.scope scope own)
    (S : Src X R σ H tg iter ([] : List α) ι) (hg : Blk X scope fun Y => PG Y tg g) (hf : ∀ x, foldedSetIterable iter X.env x = pure x := by intro _; rfl) :
    PE X (.ListComp elt [⟨tg, iter, [], 0⟩] scope pos) (tG R σ H (fun v H' => ∃ b, v = .ref b ∧ H' b = some (.lst []))) := by
  obtain ⟨wi, hi, q⟩ := S.ex
  refine de_of (pe_lc hc hN hi ok hg (fun _ _ _ _ _ => pts_nil) (fun _ _ _ _ _ => (⟨fun _ _ _ _ _ _ h => h.elim⟩ : PE _ elt (fun _ _ _ => False))) hf) fun H1 h1 Q k => q H1 h1 _ fun J H2 G Y h2 W g2 gmo it => fun Dl hD => ?_
  exact lc_it (n := 0) (g := g) (tt := tYes) (te := fun _ _ _ => False) (vs := own.map (·.2)) (σ := σ) W (fun _ H' => H' Dl = some (.lst []) ∧ R H2 H') ⟨upd_same, r.ex (Ex.new hD)⟩ (fun i H' _ ⟨_, x⟩ => gmo _ _ x g2) (fun i x H3 H4 hi _ _ => absurd hi (Nat.not_lt_zero _)) fun H' ⟨ha, hr⟩ => k _ H' (r.trans h2 hr) ⟨Dl, rfl, ha⟩
/-- l + m, lists of one's own -/
theorem de_catO {a b : Expr} {ds es' : List PyData} (r : Rl R) (ha : PE X a (tG R σ H (OL X.K ds))) (hb : PE X b (tG R σ H (OL X.K es'))) (hz : ds.length + es'.length ≤ sizeLine) : PE X (.BinOp a .Add b pos) (tG R σ H (OL X.K (ds ++ es'))) :=
  de_op r op_cat ha (mo_ol r) hb fun x y H2 _ ⟨l, xs, e1, h1, d1⟩ ⟨m, ys, e2, h2, d2⟩ Q k => ⟨l, m, xs, ys, e1, e2, h1, h2, by rw [DpAll.length d1, DpAll.length d2]; exact hz, fun q hq => k _ _ (r.ex (Ex.new hq)) ⟨q, _, rfl, upd_same, r.dpAll (r.ex (Ex.new hq)) (DpAll.app d1 d2)⟩⟩
theorem dpAll_rep {K : Fg} {H : Hp} {xs : List V} {ds : List PyData} (h : DpAll K H xs ds) : ∀ n, DpAll K H (List.replicate n xs).flatten (List.replicate n ds).flatten
  | 0 => .nil
  | n + 1 => by
    rw [List.replicate_succ, List.replicate_succ, List.flatten_cons, List.flatten_cons]
    exact DpAll.app h (dpAll_rep h n)
/-- l * n -/
theorem de_repO {a b : Expr} {ds : List PyData} {n : Nat} (r : Rl R) (ha : PE X a (tG R σ H (OL X.K ds))) (hb : PE X b (tG R σ H (Hd X.K (.int (n : Nat))))) (hz : ds.length * n ≤ sizeLine) (hn : n ≤ 100000) : PE X (.BinOp a .Mult b pos) (tG R σ H (OL X.K (List.replicate n ds).flatten)) :=
  de_op r op_rep ha (mo_ol r) hb fun x y H2 _ ⟨l, xs, e1, h1, d1⟩ q Q k => ⟨l, (n : Int), xs, e1, dp_int q, h1, by omega, by omega, by rw [DpAll.length d1]; simpa using hz, fun z hz => k _ _ (r.ex (Ex.new hz)) ⟨z, _, rfl, upd_same, by
    rw [show ((n : Nat) : Int).toNat = n from rfl]
    exact r.dpAll (r.ex (Ex.new hz)) (dpAll_rep d1 n)⟩⟩
theorem de_lstO {ds : List PyData} (r : Rl R) (h : PA X es (tAD X.K R σ H ds)) (z : ds.length ≤ sizeLine := by first | decide | (simp only [List.length_cons, List.length_nil, List.map_cons, List.map_nil]; decide)) : PE X (.List es pos) (tG R σ H (OL X.K ds)) :=
  PE.imp (pe_lst h) fun _ _ _ ⟨e1, h1, k⟩ => ⟨e1, h1, fun vs H2 h2 p => ⟨by rw [DpAll.length p]; exact z, fun q hq => k _ _ (r.trans h2 (r.ex (Ex.new hq))) ⟨q, _, rfl, upd_same, r.dpAll (r.ex (Ex.new hq)) p⟩⟩⟩
/-- what is truthy, of data -/
def truD : PyData → Bool
  | .none => false
  | .bool b => b
  | .int i => i != 0
  | .str _ => false
  | .list l => !l.isEmpty
  | .tuple l => !l.isEmpty
  | .dict _ => false
def noStr : PyData → Bool
  | .str _ => false
  | .dict _ => false
  | _ => true
theorem tru_of {K : Fg} {v : V} {H : Hp} {d : PyData} (h : Dp K H v d) (n : noStr d = true) : TruV K v H (truD d) := by
  cases h with
  | non => rfl
  | bl b => rfl
  | int i => rfl
  | str x => cases n
  | lst hs hd => exact .inl ⟨_, hs, by cases hd <;> rfl⟩
  | tup hs hd => exact .inr (.inl ⟨_, hs, by cases hd <;> rfl⟩)
/-- a or b, of data -/
theorem de_orD {a b : Expr} {restE : List Expr} {d d' : PyData} (r : Rl R) (ha : PE X a (tG R σ H (Hd X.K d))) (n : noStr d = true) (hb : PE X (.BoolOp .Or (b :: restE) pos) (tG R σ H (Hd X.K d'))) : PE X (.BoolOp .Or (a :: b :: restE) pos) (tG R σ H (Hd X.K (if truD d = true then d else d'))) :=
  PE.imp (pe_orT ha hb) fun _ _ _ ⟨e1, h1, k⟩ => ⟨e1, h1, fun v H2 h2 p => ⟨_, tru_of p n, by
    cases q : truD d with
    | true => rw [if_pos rfl]; rw [q] at k; exact k v H2 h2 p
    | false => rw [if_neg Bool.false_ne_true]; rw [q] at k; exact ⟨e1, r.trans h1 h2, fun v H3 h3 => k v H3 (r.trans h2 h3)⟩⟩⟩
theorem dp_strs_eq {K : Fg} {H : Hp} : ∀ {ws : List Str} {xs : List V}, DpAll K H xs (ws.map PyData.str) → xs = ws.map V.str
  | [], _, h => by cases h; rfl
  | y :: ws, _, h => by
    cases h with
    | cons h1 h2 =>
      cases dp_str h1
      rw [dp_strs_eq h2]; rfl
/-- a text among texts -/
theorem de_inL {a b : Expr} {x : Str} {ws : List Str} (r : Rl R) (ha : PE X a (tG R σ H (Hd X.K (.str x)))) (hb : PE X b (tG R σ H (Hd X.K (.list (ws.map PyData.str))))) (hm : behindInMarks .In b = false := by rfl) : PE X (.Compare a [.In] [b] pos) (tG R σ H (Hd X.K (.bool (inV (.str x) (ws.map V.str))))) :=
  de_cmp r op_in_seq ha (mo_d r) hb hm fun u v H2 _ p q Q k => by
    cases dp_str p
    obtain ⟨l, xs, rfl, hs, hd⟩ := dp_lst q
    have e := dp_strs_eq hd
    subst e
    exact ⟨l, _, rfl, .inl hs, rfl, by rw [List.all_map, List.all_eq_true]; intro _ _; rfl, k _ H2 (r.refl _) (.bl _)⟩
end
end Lf
set_option maxHeartbeats 4000000
/-! K5: lets_expression, fits. -/
namespace Lf
open PySem PySem.Spec L2
open PyProof.Rows hiding St
section
variable {P : Program} {w : World} {K : Fg} {mg : Str → Option Value} {base : Heap}
theorem nol_k (k : Kd) : nol (dK k) = true := by cases k <;> simp [dK, nol, nolAll]
theorem nol_e (e : Ek) : nol (dE e) = true := by cases e <;> simp [dE, nol, nolAll]
theorem shn_e {n : Nat} {e : Ek} (h : eOk e) : shn (n + 2) (dE e) := by
  cases e with
  | num z => exact shn_int
  | get f => exact shn_t3 (shn_str (by decide +kernel)) (shn_t1 (shn_nm h)) shn_int
  | to f => exact shn_t2 (shn_str (by decide +kernel)) (shn_t1 (shn_nm h))
theorem suits_ok {sch : Sch} {c : Str} {k : Kd} {e : Ek} (h : suits sch c k e) : eOk e := by
  cases e with
  | num z => trivial
  | get f => exact h.1
  | to f => exact h.1
abbrev spLetsE (K : Fg) : Sp := spT (fun _ => Ex) (fun x : Sch × Str × Kd × Ek => kdOk x.2.2.1 ∧ suits x.1 x.2.1 x.2.2.1 x.2.2.2) (fun x => [Hd K (dSch x.1), Hd K (.str x.2.1), Hd K (dK x.2.2.1), Hd K (dE x.2.2.2)]) (fun _ => Hd K (.int 1))
theorem f_lets_expression (T : Tx K mg) : Fnc P w K mg base 5 "lets_expression" (spLetsE K) := by
  refine ⟨T.g_lets_expression, fna_of T.d_lets_expression sc_lets_expression bn_lets_expression (fun _ => rfl) fun cdv A0 outer s H E x vs Q hr ok ha hQ => ?_⟩
  obtain ⟨sch, c, k, e⟩ := x
  obtain ⟨v, u, t, o, rfl, h1, h2, h3, h4⟩ := all4 ha
  obtain ⟨ko, ok⟩ := ok
  have ko : kdOk k := ko
  have ok : suits sch c k e := ok
  have eo := suits_ok ok
  have h1 : Dp K H v (dSch sch) := h1
  have h2 : Dp K H u (.str c) := h2
  have h3 : Dp K H t (dK k) := h3
  have h4 : Dp K H o (dE e) := h4
  have nd : nol (.tuple [.tuple [], dK k, dE e]) = true := by simp [nol, nolAll, nol_k, nol_e]
  refine bs_par (i := 4) (j := 5) rlEx rfl sc_lets_expression.nd rfl rfl (by decide) rfl rfl (φ := IsLst K H [.tuple [.tuple [], dK k, dE e]]) (ψ := Hd K (.int 0)) (da_cons rlEx (fun v a b h ⟨l, xs, e1, e2, e3, e4⟩ => ⟨l, xs, e1, e2, h _ _ e3, rlEx.dpAll h e4⟩)
    (de_lstN (dd_cons rlEx (de_tup rlEx (dd_cons rlEx (de_tup rlEx (dd_nil rlEx)) (dd_cons rlEx (vd 2 h3) (dd_cons rlEx (vd 3 h4) (dd_nil rlEx))))) (dd_nil rlEx))) (da_cons rlEx (mo_d rlEx) (de_int rlEx) (da_nil rlEx))) fun lv mv H1 e1 hl hm => ?_
  obtain ⟨l, xs, rfl, hn, hl, hd⟩ := hl
  cases dp_int hm
  cases hd with
  | cons hy hd =>
    cases hd
    rename_i y
    refine bs_while PassesOwn.never (fun m σ' H' => Ex H H' ∧ ((m = 1 ∧ σ' = [some v, some u, some t, some o, some (.ref l), some (.int 0), none, none, none, none, none, none] ∧ H' l = some (.lst [y]) ∧ Dp K H' y (.tuple [.tuple [], dK k, dE e])) ∨
      (m = 0 ∧ ∃ a b c' d f g, σ' = [some v, some u, some t, some o, some (.ref l), some (.int 1), a, b, c', d, f, g] ∧ H' l = some (.lst [])))) 1 ⟨e1, .inl ⟨rfl, rfl, hl, hy⟩⟩ (fun m _ _ => m == 1) (fun m σ' H' ⟨e2, q⟩ => ?_) rlEx (fun m σ' H' H'' ⟨e2, q⟩ hb e3 => ?_) (fun m σ' H' H'' ⟨e2, q⟩ hb e3 => ?_)
    · rcases q with ⟨rfl, rfl, q1, q2⟩ | ⟨rfl, a, b, c', d, f, g, rfl, q1⟩
      · exact dt_is (dt_neD (d := .list [.tuple [.tuple [], dK k, dE e]]) (d' := .list []) rlEx hr (vd 4 (.lst (.inl (.inl q1)) (.cons q2 .nil))) (de_lst rlEx (dd_nil rlEx)) (shn_lst (n := 3) fun z hz => by rw [List.mem_singleton.mp hz]; exact shn_t3 shn_t0 (shn_kd ko) (shn_e eo)).sh (shn_lst (n := 3) fun z hz => by cases hz).sh) rfl
      · exact dt_is (dt_neD (d := .list []) (d' := .list []) rlEx hr (vd 4 (.lst (.inl (.inl q1)) .nil)) (de_lst rlEx (dd_nil rlEx)) (shn_lst (n := 3) fun z hz => by cases hz).sh (shn_lst (n := 3) fun z hz => by cases hz).sh) rfl
    · rcases q with ⟨rfl, rfl, q1, q2⟩ | ⟨rfl, _⟩
      · have l3 := e3 _ _ q1
        have ne : ∀ a u, H a = some u → a ≠ l := fun a u q z => by rw [z, hn] at q; cases q
        refine bs_pop (i := 4) (xs := []) (pg_tup rfl (pgs_cons (pg_name (i := 6) sc_lets_expression.nd rfl (.inr rfl)) (pgs_cons (pg_name (i := 7) sc_lets_expression.nd rfl (.inl rfl)) (pgs_cons (pg_name (i := 8) sc_lets_expression.nd rfl (.inr rfl)) pgs_nil)))) rfl rfl (.inl rfl) l3 ?_
        have e4 : Ex H (upd H'' l (.lst [])) := Ex.mut (Ex.tr e2 e3) hn
        have hy' : Dp K (upd H'' l (.lst [])) y (.tuple [.tuple [], dK k, dE e]) := dp_nol (tups_upd (no_tup l3 (fun _ z => by cases z) fun _ _ z => by cases z)) nd (rlEx.dp e3 q2)
        refine g3 hy' fun a b d ha hb hd => ?_
        refine bs_set (i := 9) rlEx sc_lets_expression.nd rfl (.inl rfl) (cE (f_fitting_parts T) (sch, c, k, e) hr ⟨ko, ok⟩ (ar4 (vdm 0 h1 e4) (vdm 1 h2 e4) (vd 7 hb) (vd 8 hd))) fun fv H5 e5 qf => ?_
        have qf : Dp K H5 fv (.tuple []) := qf
        refine bs_when (t := false) rlEx (dt_is (dt_isN rlEx (vd 9 qf)) rfl) (fun z => by cases z) fun _ H6 e6 => ?_
        refine bs_addI (i := 5) rlEx sc_lets_expression.nd rfl (.inl rfl) rfl (de_int rlEx) fun H7 e7 => ?_
        have l7 : H7 l = some (.lst []) := Ex.tr (Ex.tr e5 e6) e7 _ _ upd_same
        refine bs_extend (i := 4) (ψ := fun zs _ => zs = []) rlEx rfl rfl (.inl rfl) l7 (fun _ _ _ _ q => q) (de_imp (de_lc0 (own := [("k", 10), ("own", 11)]) (g := gTup K 2 (gCons (gName 10) (gCons (gName 11) gNil))) rlEx rfl sc_lets_expression.nd (blkOk_by (N := ["schema", "cls", "kind", "thing", "left", "many", "place", "due", "part", "found", "k", "own"]) (sc := defScope s_lets_expression) (by decide +kernel))
          (src_tup (src := []) (f := fun d : PyData => d) rlEx (de_back0 rlEx (vd 9 (rlEx.dp (Ex.tr e6 e7) qf)))) fun _ _ _ _ _ => pg_tup rfl (pgs_cons (pg_name (i := 10) sc_lets_expression.nd rfl (.inl rfl)) (pgs_cons (pg_name (i := 11) sc_lets_expression.nd rfl (.inl rfl)) pgs_nil)))
          (fun z H' _ ⟨b, hb, hb2⟩ => ⟨b, [], hb, hb2, Nat.zero_le _, rfl⟩) rlEx) fun zs H8 e8 hz l8 => bs_nil ?_
        subst hz
        refine ⟨0, Nat.zero_lt_one, Ex.mut (Ex.tr e4 (Ex.tr (Ex.tr (Ex.tr e5 e6) e7) e8)) hn, .inr ⟨rfl, _, _, _, _, _, _, rfl, upd_same⟩⟩
      · cases hb
    · rcases q with ⟨rfl, _⟩ | ⟨rfl, a, b, c', d, f, g, rfl, q1⟩
      · cases hb
      · exact bs_ret (vd 5 (.int 1)) rlEx fun v' H5 e6 q => hQ v' H5 (Ex.tr (Ex.tr e2 e3) e6) q
end
end Lf
set_option maxHeartbeats 4000000
/-! K6: fits; rows of a change as data; its shape. -/
namespace Lf
open PySem PySem.Spec L2
open PyProof.Rows hiding St
/-- the exception classes, by name -/
structure Te (mg : Str → Option Value) : Prop where
  unfit : ∃ c, mg "UnfitExpression" = some c
  paper : ∃ c, mg "InvalidPaper" = some c
section
variable {P : Program} {w : World} {K : Fg} {mg : Str → Option Value} {base : Heap}
theorem takes_none {X : Cx} : Takes X (fun _ _ _ _ => False) := fun _ _ ⟨_, _, _, _, _, _, _, _, _, _, _, _, _, _, _, _, w⟩ => w.elim
abbrev spFits (K : Fg) : Sp := spT (fun _ => Ex) (fun x : Sch × Str × Kd × Ek => kdOk x.2.2.1 ∧ suits x.1 x.2.1 x.2.2.1 x.2.2.2) (fun x => [Hd K (dSch x.1), Hd K (.str x.2.1), Hd K (dK x.2.2.1), Hd K (dE x.2.2.2)]) (fun _ => Hd K (.bool true))
theorem f_fits (T : Tx K mg) (Te' : Te mg) : Fnc P w K mg base 6 "fits" (spFits K) := by
  refine ⟨T.g_fits, fna_of T.d_fits sc_fits bn_fits (fun _ => rfl) fun cdv A0 outer s H E x vs Q hr ok ha hQ => ?_⟩
  obtain ⟨sch, c, k, e⟩ := x
  obtain ⟨v, u, t, o, rfl, h1, h2, h3, h4⟩ := all4 ha
  obtain ⟨cu, gu⟩ := Te'.unfit
  refine bs_try (x := "UnfitExpression") (c := cu) (W := fun _ _ _ _ => False) takes_none rfl rfl ⟨rfl, by decide, .inl gu⟩ fun pn xe hp => ?_
  refine bs_expr rlEx (cE (f_lets_expression T) (sch, c, k, e) hr ok (ar4 (vd 0 h1) (vd 1 h2) (vd 2 h3) (vd 3 h4))) fun _ H1 e1 _ => bs_nil ?_
  exact bs_ret (de_bl rlEx) rlEx fun v' H5 e6 q => hQ v' H5 (Ex.tr e1 e6) q
/-! ### a change's rows -/
structure Row where
  c : Str
  fm : Form
  es : Option (List Ek)
def dEs (es : List Ek) : PyData := .tuple (es.map dE)
def dRow (r : Row) : PyData := .tuple [.str r.c, dForm r.fm, opt dEs r.es]
def dRows (rs : List Row) : PyData := .tuple (rs.map dRow)
theorem nol_es (es : List Ek) : nol (dEs es) = true := by
  unfold dEs nol
  exact nolAll_map fun e _ => nol_e e
theorem nol_row (r : Row) : nol (dRow r) = true := by
  obtain ⟨c, fm, es⟩ := r
  cases es <;> simp [dRow, nol, nolAll, nol_form, nol_es, opt]
abbrev spReq (K : Fg) : Sp := spT (fun _ => Ex) (fun x : Str × PyData => True) (fun x => [Hd K (.bool true), Hd K (.str x.1), Hd K x.2]) (fun _ => Hd K .none)
theorem f_require_change (T : Tx K mg) : Fnc P w K mg base 1 "require_change" (spReq K) := by
  refine ⟨T.g_require_change, fna_of T.d_require_change sc_require_change bn_require_change (fun _ => rfl) fun cdv A0 outer s H E x vs Q hr _ ha hQ => ?_⟩
  obtain ⟨v, u, t, rfl, h1, h2, h3⟩ := all3 ha
  refine bs_when (t := false) rlEx (dt_is (dt_not (dt_val rlEx (vd 0 h1))) rfl) (fun z => by cases z) fun _ H1 e1 => bs_nil ?_
  exact hQ _ _ e1 .non
def rowOk (r : Row) : Prop := nmOk r.c ∧ formOk r.fm
abbrev spShape (K : Fg) : Sp := spT (fun _ => Ex) (fun rs : List Row => (∀ r ∈ rs, rowOk r) ∧ rs.length < 1000) (fun rs => [Hd K (dRows rs)]) (fun _ => Hd K (.bool true))
theorem f_has_change_shape (T : Tx K mg) : Fnc P w K mg base 8 "has_change_shape" (spShape K) := by
  refine ⟨T.g_has_change_shape, fna_of T.d_has_change_shape sc_has_change_shape bn_has_change_shape (fun _ => rfl) fun cdv A0 outer s H E rs vs Q hr ok ha hQ => ?_⟩
  obtain ⟨v, rfl, h⟩ := all1 ha
  obtain ⟨o1, o2⟩ := ok
  have h : Dp K H v (dRows rs) := h
  have hz : rs.length < sizeLine := Nat.lt_of_lt_of_le o2 (by decide)
  refine bs_when (t := false) rlEx (dt_is (dt_w (dw_or (c := false) (c' := false) rlEx (dt_is (dt_not (dt_val rlEx (de_isi rlEx rfl T.z_isinstance (vd 0 h) (vty rlEx T.z_tuple) (kit_Tup (dRows rs))))) rfl) fun _ =>
    dw_or1 (dt_is (dt_not (dt_val rlEx (de_is (de_all (bs := rs.map fun _ => true) rlEx rfl rfl T.z_all ?_) (congrArg PyData.bool (all_true rs))))) rfl))) rfl) (fun z => by cases z) fun _ H1 e1 => ?_
  · exact de_is (de_lcM (own := [("row", 4)]) (g := gName 4) (eo := fun _ => PyData.bool true) rlEx rfl sc_has_change_shape.nd (blkOk_by (N := ["thing", "cls", "form", "expressions", "row"]) (sc := defScope s_has_change_shape) (by decide +kernel)) (src_tup (src := rs) (f := dRow) rlEx (vd 0 h)) hz (fun _ _ => rfl)
      (fun _ _ _ _ _ => pg_name (i := 4) sc_has_change_shape.nd rfl (.inl rfl)) gm_name fun r y H3 hc _ hy => ⟨rfl, Ex.rfl' _, fun H4 e4 _ _ _ _ _ => de_and (c := true) (c' := true) rlEx (de_isi rlEx rfl T.z_isinstance (vd 4 (rlEx.dp e4 hy)) (vty rlEx T.z_tuple) (kit_Tup (dRow r))) fun _ => de_one (de_is (de_eqI rlEx (de_lenT (ds := [.str r.c, dForm r.fm, opt dEs r.es]) rlEx rfl T.z_len (vd 4 (rlEx.dp e4 hy))) (de_int rlEx)) rfl)⟩) (by rw [List.map_map]; rfl)
  · refine bs_for (g := gTup K 3 (gCons (gName 1) (gCons (gName 2) (gCons (gName 3) gNil)))) rlEx PassesOwn.never rfl (src_tup (src := rs) (f := dRow) rlEx (vd 0 (rlEx.dp e1 h))) (pg_tup rfl (pgs_cons (pg_name (i := 1) sc_has_change_shape.nd rfl (.inl rfl)) (pgs_cons (pg_name (i := 2) sc_has_change_shape.nd rfl (.inl rfl)) (pgs_cons (pg_name (i := 3) sc_has_change_shape.nd rfl (.inl rfl)) pgs_nil))))
      (fun H2 i σ' H' => ∃ a b c, σ' = [some v, a, b, c, none] ∧ Ex H2 H') (fun H2 _ => ⟨_, _, _, rfl, Ex.rfl' _⟩) (fun H2 i σ' H' _ _ ⟨_, _, _, _, e⟩ => e) ?_ ?_
    · rintro H2 i r y σ' H' H'' e2 hp ⟨a, b, c, rfl, e3⟩ e4 hy
      have rok := o1 r (List.mem_of_getElem? hp)
      refine g3 hy fun v1 v2 v3 p1 p2 p3 => ?_
      refine bs_when (t := false) rlEx (dt_is (dt_w (dw_or (c := false) (c' := false) rlEx (dt_is (dt_not (dt_val rlEx (cE (f_is_name T) r.c hr rok.1 (ar1 (vd 1 p1))))) rfl) fun _ =>
        dw_or (c := false) (c' := false) rlEx (dt_is (dt_not (dt_val rlEx (cE (f_is_form T) r.fm hr rok.2 (ar1 (vd 2 p2))))) rfl) fun _ =>
        dw_or1 (dt_is (dt_not (dt_is (c' := true) (dt_w (dw_or (c := isNon (opt dEs r.es)) (c' := true) rlEx (dt_isN rlEx (vd 3 p3)) fun z => dw_or1 (dt_val rlEx (de_isi rlEx rfl T.z_isinstance (vd 3 p3) (vty (T := "tuple") rlEx T.z_tuple) ?_)))) (by simp))) rfl))) rfl) (fun z => by cases z) fun _ H5 e5 => bs_nil ⟨_, _, _, rfl, Ex.tr (Ex.tr e3 e4) e5⟩
      cases q : r.es with
      | none => rw [q] at z; cases z
      | some l => exact kit_Tup _
    · rintro H2 σ' H' e2 ⟨a, b, c, rfl, e3⟩
      exact bs_ret (de_bl rlEx) rlEx fun v' H4 e6 q => hQ v' H4 (Ex.tr (Ex.tr (Ex.tr e1 e2) e3) e6) q
end
end Lf
set_option maxHeartbeats 4000000
/-! Lay7: dicts of data. -/
namespace Lf
open PySem PySem.Spec L2
open PyProof.Rows hiding St
abbrev DL := List (Key × PyData)
/-- the value at a key -/
def fndK {α : Type} (k : Key) : List (Key × α) → Option α
  | [] => none
  | p :: r => if p.1 = k then some p.2 else fndK k r
theorem dicR_get {K : Fg} {H : Hp} {k : Key} : ∀ {kvs : List (Key × V)} {kds : DL}, DicR K H kvs kds → (∀ d, fndK k kds = some d → ∃ v, valV kvs k = some v ∧ Dp K H v d) ∧ (fndK k kds = none → valV kvs k = none)
  | _, _, .nil => ⟨(fun d h => by cases h), fun _ => valV_nil⟩
  | _, _, .cons (a := p) (b := q) h t => by
    obtain ⟨e1, e2⟩ := h
    obtain ⟨t1, t2⟩ := dicR_get (k := k) t
    unfold fndK
    by_cases z : q.1 = k
    · rw [if_pos z, valV_pos (e1.trans z)]
      exact ⟨fun d h => ⟨_, rfl, by cases h; exact e2⟩, fun h => (by cases h)⟩
    · rw [if_neg z, valV_neg (fun y => z (e1.symm.trans y))]
      exact ⟨t1, t2⟩
theorem dicR_some {K : Fg} {H : Hp} {k : Key} {kvs : List (Key × V)} {kds : DL} (h : DicR K H kvs kds) : (valV kvs k).isSome = (fndK k kds).isSome := by
  cases q : fndK k kds with
  | none => rw [(dicR_get h).2 q]; rfl
  | some d =>
    obtain ⟨v, e, _⟩ := (dicR_get h).1 d q
    rw [e]; rfl
theorem dicR_keys {K : Fg} {H : Hp} : ∀ {kvs : List (Key × V)} {kds : DL}, DicR K H kvs kds → kvs.map (·.1) = kds.map (·.1)
  | _, _, .nil => rfl
  | _, _, .cons h t => by rw [List.map_cons, List.map_cons, h.1, dicR_keys t]
theorem dicR_length {K : Fg} {H : Hp} {kvs : List (Key × V)} {kds : DL} (h : DicR K H kvs kds) : kvs.length = kds.length := Paired.length h
/-- a dict written at a key -/
def putA {α : Type} (l : List (Key × α)) (k : Key) (d : α) : List (Key × α) := if l.any (fun p => decide (p.1 = k)) then l.map (fun p => if p.1 = k then (p.1, d) else p) else l ++ [(k, d)]
theorem paired_app {α β : Type} {F : α → β → Prop} : ∀ {a b : List α} {c d : List β}, Paired F a c → Paired F b d → Paired F (a ++ b) (c ++ d)
  | _, _, _, _, .nil, h => h
  | _, _, _, _, .cons h t, s => .cons h (paired_app t s)
theorem paired_map {α β γ δ : Type} {F : α → β → Prop} {G : γ → δ → Prop} {f : α → γ} {g : β → δ} (m : ∀ x y, F x y → G (f x) (g y)) : ∀ {a : List α} {b : List β}, Paired F a b → Paired G (a.map f) (b.map g)
  | _, _, .nil => .nil
  | _, _, .cons h t => .cons (m _ _ h) (paired_map m t)
theorem dicR_put {K : Fg} {H : Hp} {k : Key} {v : V} {d : PyData} {kvs : List (Key × V)} {kds : DL} (h : DicR K H kvs kds) (hv : Dp K H v d) : DicR K H (putK kvs k v) (putA kds k d) := by
  have e : (kvs.any fun kv => decide (kv.1 = k)) = kds.any fun p => decide (p.1 = k) := by
    have a1 : (kvs.any fun kv => decide (kv.1 = k)) = (kvs.map (·.1)).any fun y => decide (y = k) := by rw [List.any_map]; rfl
    have a2 : (kds.any fun kv => decide (kv.1 = k)) = (kds.map (·.1)).any fun y => decide (y = k) := by rw [List.any_map]; rfl
    rw [a1, a2, dicR_keys h]
  unfold putK putA
  rw [e]
  split
  · refine paired_map (fun p q h1 => ?_) h
    by_cases z : q.1 = k
    · rw [if_pos z, if_pos (h1.1.trans z)]
      exact ⟨h1.1, hv⟩
    · rw [if_neg z, if_neg (fun y => z (h1.1.symm.trans y))]
      exact h1
  · exact paired_app h (.cons ⟨rfl, hv⟩ .nil)
theorem putA_new {α : Type} {l : List (Key × α)} {k : Key} {d : α} (h : k ∉ l.map (·.1)) : putA l k d = l ++ [(k, d)] := by
  unfold putA
  rw [if_neg fun z => ?_]
  obtain ⟨p, m1, m2⟩ := List.any_eq_true.mp z
  exact h (List.mem_map.mpr ⟨p, m1, of_decide_eq_true m2⟩)
/-- data without lists in a dict, while another thing that is no tuple is written -/
theorem dicR_upd {K : Fg} {H : Hp} {p : Addr} {o : HO} {kvs : List (Key × V)} {kds : DL} (nt : ∀ xs, ¬ Rd H p (.tup xs)) (h : DicR K H kvs kds) (n : ∀ q ∈ kds, nol q.2 = true) : DicR K (upd H p o) kvs kds := by
  induction h with
  | nil => exact .nil
  | cons h1 t ih => exact .cons ⟨h1.1, dp_nol (tups_upd nt) (n _ List.mem_cons_self) h1.2⟩ (ih fun q hq => n q (List.mem_cons_of_mem _ hq))
/-- a dict of one's own -/
def DicN (K : Fg) (H0 : Hp) (kds : DL) : Pv := fun v H => ∃ a kvs, v = .ref a ∧ H0 a = none ∧ H a = some (.dK kvs) ∧ DicR K H kvs kds
theorem dicN_dic {K : Fg} {H0 : Hp} {kds : DL} {v : V} {H : Hp} (h : DicN K H0 kds v H) : IsDic K kds v H := by
  obtain ⟨a, kvs, e, _, h1, h2⟩ := h
  exact ⟨a, kvs, e, h1, h2⟩
theorem mo_dicN {K : Fg} {H0 : Hp} {kds : DL} : Mo Ex (DicN K H0 kds) := fun _ _ _ x ⟨a, kvs, e, n, h, q⟩ => ⟨a, kvs, e, n, x _ _ h, q.mono rlEx x⟩
section
variable {X : Cx} {R : Rel} {σ : St} {H : Hp} {D : Ends} {a b e : Expr} {rest : List Stmt} {pos p : Pos} {φ ψ : Pv} {kds : DL} {j : Nat}
theorem dget_of {K : Fg} {k : Key} {kvs : List (Key × V)} {l : Addr} {y : V} {H : Hp} (h : H l = some (.dK kvs)) (e : y = kV k) : DGet H l y (valV kvs k) := by rw [e]; exact DGet.k h
theorem room1 {k : Nat} {A : Around} (r : Room k A) : A.units + 1 < cLine := by have := r.un; omega
/-- x in d, x a text -/
theorem de_inD {x : Str} (hr : Room j X.A) (ha : PE X a (tG Ex σ H (Hd X.K (.str x)))) (hb : PE X b (tG Ex σ H (IsDic X.K kds))) (hm : behindInMarks .In b = false := by rfl) : PE X (.Compare a [.In] [b] pos) (tG Ex σ H (Hd X.K (.bool (fndK (Sum.inr x) kds).isSome))) :=
  PE.imp (pe_cmp (pc_din (room1 hr) ha hb) hm) fun _ _ _ ⟨e1, h1, k⟩ => ⟨e1, h1, fun y H2 h2 q => ⟨e1, Ex.tr h1 h2, fun v H3 h3 ⟨l, kvs, ev, hl, hd⟩ => ⟨l, _, ev, dget_of (k := Sum.inr x) (K := X.K) hl (dp_str q), by
    rw [dicR_some hd]
    exact k _ H3 (Ex.tr h2 h3) (.bl _)⟩⟩⟩
theorem de_ninD {x : Str} (hr : Room j X.A) (ha : PE X a (tG Ex σ H (Hd X.K (.str x)))) (hb : PE X b (tG Ex σ H (IsDic X.K kds))) (hm : behindInMarks .NotIn b = false := by rfl) : PE X (.Compare a [.NotIn] [b] pos) (tG Ex σ H (Hd X.K (.bool (!(fndK (Sum.inr x) kds).isSome)))) :=
  PE.imp (pe_cmp (pc_dnotin (room1 hr) ha hb) hm) fun _ _ _ ⟨e1, h1, k⟩ => ⟨e1, h1, fun y H2 h2 q => ⟨e1, Ex.tr h1 h2, fun v H3 h3 ⟨l, kvs, ev, hl, hd⟩ => ⟨l, _, ev, dget_of (k := Sum.inr x) (K := X.K) hl (dp_str q), by
    rw [dicR_some hd]
    exact k _ H3 (Ex.tr h2 h3) (.bl _)⟩⟩⟩
/-- d[x] -/
theorem de_getD {k : Key} {y d : PyData} (hr : Room j X.A) (ha : PE X a (tG Ex σ H (IsDic X.K kds))) (hb : PE X b (tG Ex σ H (Hd X.K y))) (hy : ∀ v H', Dp X.K H' v y → v = kV k) (e : fndK k kds = some d) (hs : NoSl b := by exact fun _ _ => rfl) : PE X (.Subscript a b pos) (tG Ex σ H (Hd X.K d)) :=
  PE.imp (pe_dget (room1 hr) ha hb hs) fun _ _ _ ⟨e1, h1, kk⟩ => ⟨e1, h1, fun v H2 h2 ⟨l, kvs, ev, hl, hd⟩ => ⟨e1, Ex.tr h1 h2, fun z H3 h3 q => by
    have hl3 := h3 _ _ hl
    obtain ⟨u, e2, p2⟩ := (dicR_get (hd.mono rlEx h3)).1 d e
    exact ⟨l, u, ev, by rw [← e2]; exact dget_of (K := X.K) hl3 (hy _ _ q), kk u H3 (Ex.tr h2 h3) p2⟩⟩⟩
theorem key_str {K : Fg} {x : Str} : ∀ v H', Dp K H' v (.str x) → v = kV (Sum.inr x) := fun _ _ h => dp_str h
theorem key_int {K : Fg} {x : Int} : ∀ v H', Dp K H' v (.int x) → v = kV (Sum.inl x) := fun _ _ h => dp_int h
/-! dict comprehensions -/
theorem dc_go {α : Type} {src : List α} {ι : α → Pv} {bo : α → Bool} {ky : α → Key} {eo : α → PyData} {kx vx : Expr} {ifs : List Expr} {scope : Scope} {vs : List Nat} {g : TG} {H1 : Hp} {Q : VK} {wi : TI}
    (q : ∀ H1, Ex H H1 → ∀ Rr : It → Hp → Prop, (∀ (J : It) (H2 : Hp) (G : Hp → Prop) (Y : Nat → Hp → V → Hp → Prop), Ex H1 H2 → Walk J src.length G Y → G H2 → (∀ H3 H4, Ex H3 H4 → G H3 → G H4) →
      (∀ i H3 x H4, Ex H2 H3 → G H3 → Y i H3 x H4 → Ex H3 H4 ∧ ∃ s, src[i]? = some s ∧ ι s x H4) → Rr J H2) → wi σ H1 Rr) (hz : src.length < sizeLine) (hn : ∀ s ∈ src, nol (eo s) = true) (nd : ((src.filter bo).map ky).Nodup)
    (hs : ∀ s x H', s ∈ src → Ex H H' → ι s x H' → g x (wipe σ vs) H' fun σ2 H2 => wipe σ2 vs = wipe σ vs ∧ Ex H' H2 ∧ (Blk X scope fun Y => PTs Y ifs (tT Ex σ2 H2 (bo s))) ∧ (bo s = true → ∀ H3, Ex H2 H3 → (Blk X scope fun Y => PE Y kx (tG Ex σ2 H3 (Hv (kV (ky s))))) ∧ (∀ H3, Ex H2 H3 → Blk X scope fun Y => PE Y vx (tG Ex σ2 H3 (Hd X.K (eo s))))))
    (gm : GMo g) (h1 : Ex H H1) (k : ∀ v H2, Ex H1 H2 → DicN X.K H1 ((src.filter bo).map fun s => (ky s, eo s)) v H2 → Q v H2) :
    tDc wi g (fun σ H Q => ∀ s H0 C cl fp, PTs (X.blk s H0 scope (compEnvC scope cl C X.env) fp) ifs (tTQ σ H Q)) (fun σ H Q => ∀ s H0 C cl fp, PE (X.blk s H0 scope (compEnvC scope cl C X.env) fp) kx (tQ σ H Q)) (fun σ H Q => ∀ s H0 C cl fp, PE (X.blk s H0 scope (compEnvC scope cl C X.env) fp) vx (tQ σ H Q)) vs σ H1 Q := by
  refine q H1 h1 _ fun J H2 G Y h2 W g2 gmo it => fun Dl hD => ?_
  have lenle : ∀ i, (((src.take i).filter bo).map fun s => (ky s, eo s)).length ≤ src.length := fun i => by
    rw [List.length_map]
    exact Nat.le_trans (List.length_filter_le _ _) (by rw [List.length_take]; exact Nat.min_le_right _ _)
  refine ⟨fun i m H' => m = src.length - i ∧ i ≤ src.length ∧ ∃ acc, H' Dl = some (.dK acc) ∧ Ex H2 H' ∧ DicR X.K H' acc (((src.take i).filter bo).map fun s => (ky s, eo s)), ⟨src.length, by simp, Nat.zero_le _, [], upd_same, Ex.new hD, .nil⟩, ?_⟩
  rintro i m H3 ⟨rfl, hi, acc, ha, hr, hd⟩
  have gg := gmo _ _ hr g2
  by_cases hlt : i < src.length
  · refine .inr ⟨W.goes i H3 hlt gg, fun H' => i + 1 ≤ src.length ∧ ∃ acc, H' Dl = some (.dK acc) ∧ Ex H2 H' ∧ DicR X.K H' acc (((src.take (i + 1)).filter bo).map fun s => (ky s, eo s)), fun H' p' => ⟨src.length - (i + 1), by omega, rfl, p'⟩, fun x H4 y => ?_⟩
    obtain ⟨ex, s, hs', is⟩ := it i H3 x H4 hr gg (W.yields i H3 x H4 hlt gg y)
    have hm : s ∈ src := List.mem_of_getElem? hs'
    have r4 : Ex H2 H4 := Ex.tr hr ex
    refine gm _ _ _ _ _ (fun σ2 H5 z => ?_) (hs s x H4 hm (Ex.tr (Ex.tr h1 h2) r4) is)
    obtain ⟨w1, r5, pt, pe⟩ := z
    refine ⟨w1, fun s0 H0 C cl fp => PTs.imp (pt s0 H0 C cl fp) fun σ' H' Q' ⟨e1, e2, e3⟩ => ?_⟩
    subst e1 e2 e3
    refine ⟨rfl, Ex.rfl' _, fun H6 r6 => ?_⟩
    have htake : src.take (i + 1) = src.take i ++ [s] := by
      rw [List.take_succ, hs']; rfl
    have r46 : Ex H3 H6 := Ex.tr (Ex.tr ex r5) r6
    cases hb : bo s with
    | false =>
      show _ ∧ ∃ acc, _
      refine ⟨hlt, acc, r46 _ _ ha, Ex.tr hr r46, ?_⟩
      rw [htake, List.filter_append, List.filter_cons, hb]
      simpa using hd.mono rlEx r46
    | true =>
      obtain ⟨pk, pv⟩ := pe hb H6 r6
      refine fun s0 H0 C cl fp => PE.imp (pk s0 H0 C cl fp) fun σ' H' Q' ⟨e1, e2, e3⟩ => ?_
      subst e1 e2 e3
      refine ⟨rfl, Ex.rfl' _, fun u H7 r7 ek => ?_⟩
      refine fun s0 H0 C cl fp => PE.imp (pv H7 (Ex.tr r6 r7) s0 H0 C cl fp) fun σ' H' Q' ⟨e1, e2, e3⟩ => ?_
      subst e1 e2 e3
      refine ⟨rfl, Ex.rfl' _, fun v H8 r8 pv8 => ?_⟩
      have r38 : Ex H3 H8 := Ex.tr (Ex.tr r46 r7) r8
      have d8 := r38 _ _ ha
      have dd8 := hd.mono rlEx r38
      have nt := no_tup d8 (fun _ z => by cases z) fun _ _ z => by cases z
      refine ⟨acc, ky s, ek, d8, ?_, hlt, putK acc (ky s) v, upd_same, fun a o h => ?_, ?_⟩
      · rw [dicR_length hd]
        exact Nat.lt_of_le_of_lt (lenle i) hz
      · rw [upd_ne (ne_of_none h hD)]
        exact Ex.tr hr r38 a o h
      · have key := dicR_put dd8 (k := ky s) pv8
        have fresh : ky s ∉ (((src.take i).filter bo).map fun s => (ky s, eo s)).map (·.1) := fun z => by
          have nd2 : (((src.take (i + 1)).filter bo).map ky).Nodup := by
            have sub : (src.take (i + 1)).filter bo = ((src.take (i + 1)).filter bo) := rfl
            refine nd.sublist (List.Sublist.map _ (List.Sublist.filter _ (List.take_sublist _ _)))
          rw [htake, List.filter_append, List.filter_cons, hb, List.map_append, List.nodup_append] at nd2
          rw [List.map_map] at z
          exact nd2.2.2 _ z _ (by simp) rfl
        rw [putA_new fresh] at key
        rw [htake, List.filter_append, List.map_append, List.filter_cons, hb]
        refine dicR_upd nt key fun q hq => ?_
        rcases List.mem_append.mp hq with hq | hq
        · obtain ⟨z, hz', rfl⟩ := List.mem_map.mp hq
          exact hn z (List.mem_of_mem_take (List.mem_filter.mp hz').1)
        · obtain rfl := List.mem_singleton.mp hq
          exact hn s hm
  · have e : i = src.length := by omega
    subst e
    exact .inl ⟨W.stops H3 gg, k _ H3 (Ex.tr h2 hr) ⟨Dl, acc, rfl, Ex.back h2 hD, ha, by rw [List.take_length] at hd; exact hd⟩⟩
end
end Lf
set_option maxHeartbeats 4000000
/-! Lay8: dict comprehensions, items of a dict, sorted(d); schemas told by their object. -/
namespace Lf
open PySem PySem.Spec L2
open PyProof.Rows hiding St
section
variable {X : Cx} {R : Rel} {σ : St} {H : Hp} {D : Ends} {a b e : Expr} {rest : List Stmt} {pos p : Pos} {φ ψ : Pv} {kds : DL} {j : Nat}
/-- {k: v for tg in iter if ..} -/
theorem de_dcN {α : Type} {src : List α} {ι : α → Pv} {bo : α → Bool} {ky : α → Key} {eo : α → PyData} {kx vx tg iter : Expr} {ifs : List Expr} {scope : Scope} {own : List (Str × Nat)} {g : TG} (hc : X.calm = true) (hN : X.N.Nodup) (ok : BlkOk X.N X.env.scope scope own)
    (S : Src X Ex σ H tg iter src ι) (hz : src.length < sizeLine) (hn : ∀ s ∈ src, nol (eo s) = true) (nd : ((src.filter bo).map ky).Nodup) (hg : Blk X scope fun Y => PG Y tg g) (gm : GMo g)
    (hs : ∀ s x H', s ∈ src → Ex H H' → ι s x H' → g x (wipe σ (own.map (·.2))) H' fun σ2 H2 => wipe σ2 (own.map (·.2)) = wipe σ (own.map (·.2)) ∧ Ex H' H2 ∧ (Blk X scope fun Y => PTs Y ifs (tT Ex σ2 H2 (bo s))) ∧
      (bo s = true → ∀ H3, Ex H2 H3 → (Blk X scope fun Y => PE Y kx (tG Ex σ2 H3 (Hv (kV (ky s))))) ∧ (∀ H3, Ex H2 H3 → Blk X scope fun Y => PE Y vx (tG Ex σ2 H3 (Hd X.K (eo s))))))
    (hf : ∀ x, foldedSetIterable iter X.env x = pure x := by intro _; rfl) : PE X (.DictComp kx vx [⟨tg, iter, ifs, 0⟩] scope pos) (tG Ex σ H (DicN X.K H ((src.filter bo).map fun s => (ky s, eo s)))) := by
  obtain ⟨wi, hi, q⟩ := S.ex
  exact de_of (pe_dc hc hN hi ok hg PTs.selfB PE.selfB PE.selfB hf) fun H1 h1 Q k => dc_go q hz hn nd hs gm h1 fun v H2 h2 ⟨a, kvs, e, n, z⟩ => k v H2 h2 ⟨a, kvs, e, Ex.back h1 n, z⟩
theorem de_dc {α : Type} {src : List α} {ι : α → Pv} {bo : α → Bool} {ky : α → Key} {eo : α → PyData} {kx vx tg iter : Expr} {ifs : List Expr} {scope : Scope} {own : List (Str × Nat)} {g : TG} (hc : X.calm = true) (hN : X.N.Nodup) (ok : BlkOk X.N X.env.scope scope own)
    (S : Src X Ex σ H tg iter src ι) (hz : src.length < sizeLine) (hn : ∀ s ∈ src, nol (eo s) = true) (nd : ((src.filter bo).map ky).Nodup) (hg : Blk X scope fun Y => PG Y tg g) (gm : GMo g)
    (hs : ∀ s x H', s ∈ src → Ex H H' → ι s x H' → g x (wipe σ (own.map (·.2))) H' fun σ2 H2 => wipe σ2 (own.map (·.2)) = wipe σ (own.map (·.2)) ∧ Ex H' H2 ∧ (Blk X scope fun Y => PTs Y ifs (tT Ex σ2 H2 (bo s))) ∧
      (bo s = true → ∀ H3, Ex H2 H3 → (Blk X scope fun Y => PE Y kx (tG Ex σ2 H3 (Hv (kV (ky s))))) ∧ (∀ H3, Ex H2 H3 → Blk X scope fun Y => PE Y vx (tG Ex σ2 H3 (Hd X.K (eo s))))))
    (hf : ∀ x, foldedSetIterable iter X.env x = pure x := by intro _; rfl) : PE X (.DictComp kx vx [⟨tg, iter, ifs, 0⟩] scope pos) (tG Ex σ H (IsDic X.K ((src.filter bo).map fun s => (ky s, eo s)))) := by
  exact de_imp (de_dcN hc hN ok S hz hn nd hg gm hs hf) (fun _ _ _ h => dicN_dic h) rlEx
/-- while the dict at d stands locked -/
theorem de_lock {d : Addr} {kvs : List (Key × V)} (hd : H d = some (.dK kvs)) (h : ∀ od, PE X e (tG Ex σ (upd H d (.frz od (.dK kvs))) φ)) (m : ∀ v H' od, H' d = some (.frz od (.dK kvs)) → φ v H' → ψ v (upd H' d (.dK kvs))) : PE X e (tG Ex σ H ψ) := by
  refine ⟨fun pins s σ' H' Q I ⟨e1, h1, k⟩ => ?_⟩
  subst e1
  have hd' := h1 _ _ hd
  obtain ⟨od, I1⟩ := I.lock hd' trivial
  have le : Ex (upd H d (.frz od (.dK kvs))) (upd H' d (.frz od (.dK kvs))) := fun b o hb => by
    by_cases z : b = d
    · rw [z, upd_same] at hb ⊢
      exact hb
    · rw [upd_ne z] at hb ⊢
      exact h1 _ _ hb
  refine thn ((h od).run pins s σ' _ (fun v H2 => H2 d = some (.frz od (.dK kvs)) ∧ Q v (upd H2 d (.dK kvs))) I1 ⟨rfl, le, fun v H2 h2 p => ?_⟩) fun v s1 ⟨x, H1, I2, r, e2, q⟩ => ⟨x, _, I2.unlock e2 (I.nofrz hd' trivial), r, q⟩
  have g := h2 _ _ upd_same
  refine ⟨g, k v _ (fun b o hb => ?_) (m v H2 od g p)⟩
  by_cases z : b = d
  · rw [z] at hb ⊢
    rw [upd_same, ← hb, hd']
  · rw [upd_ne z]
    exact h2 _ _ (by rw [upd_ne z]; exact hb)
theorem dicR_at {K : Fg} {H : Hp} {kv : Key × V} : ∀ {l : List (Key × V)} {m : DL} {i : Nat}, DicR K H l m → l[i]? = some kv → ∃ s, m[i]? = some s ∧ kv.1 = s.1 ∧ Dp K H kv.2 s.2
  | _, _, _, .nil, q => by simp at q
  | _, _, 0, .cons (b := b) h _, q => by
    have e : _ = kv := Option.some.inj (by simpa using q)
    subst e
    exact ⟨b, rfl, h.1, h.2⟩
  | _, _, i + 1, .cons _ t, q => by
    obtain ⟨s, e1, e2⟩ := dicR_at (i := i) t (by simpa using q)
    exact ⟨s, by simpa using e1, e2⟩
/-- d.items() of a locked dict, as a source -/
theorem src_items {d : Addr} {od : Obj} {kvs : List (Key × V)} {kk : Nat} {elts : List Expr} {apos tpos : Pos} (r : PE X e (tG Ex σ H (Hv (.ref d)))) (hd : H d = some (.frz od (.dK kvs))) (dk : DicR X.K H kvs kds) (dKey : Key → PyData) (hk : ∀ k H', Dp X.K H' (kV k) (dKey k))
    (hbase : attributeBase e "items" X.env (eval e X.env) = eval e X.env := by rfl) (hline : (apos.endLine == pos.line) = true := by rfl) : Src X Ex σ H (.Tuple elts kk tpos) (.Call (.Attribute e "items" apos) [] [] pos) kds (fun s => Hd X.K (.tuple [dKey s.1, s.2])) :=
  ⟨_, pi_items r hbase hline, fun H1 h1 Rr k => ⟨rfl, h1, fun v H2 h2 ev => by
    have hd2 := h2 _ _ (h1 _ _ hd)
    have dk2 := dk.mono rlEx (Ex.tr h1 h2)
    refine ⟨d, od, kvs, ev, hd2, k _ H2 _ _ h2 (by rw [← dicR_length dk]; exact walk_items) hd2 (fun _ _ x g => x _ _ g) fun i H3 x H4 h3 _ y => ?_⟩
    obtain ⟨T, z, u, rfl, hT, rfl, hz, hu⟩ := y
    have hz : (kvs[i]?.map fun kv => kV kv.1) = some z := hz
    have hu : (kvs[i]?.map Prod.snd) = some u := hu
    cases q : kvs[i]? with
    | none => rw [q] at hz; cases hz
    | some kv =>
      rw [q] at hz hu
      cases hz; cases hu
      have dk3 := dk2.mono rlEx h3
      obtain ⟨s, es, e1, e2⟩ := dicR_at dk3 q
      exact ⟨Ex.new hT, s, es, .tup (.inl (.inl upd_same)) (.cons (by show Dp X.K _ (kV kv.1) (dKey s.1); rw [e1]; exact hk _ _) (.cons (rlEx.dp (Ex.new hT) e2) .nil))⟩⟩⟩
theorem dp_strs {K : Fg} {H : Hp} : ∀ ys : List Str, DpAll K H (ys.map V.str) (ys.map PyData.str)
  | [] => .nil
  | y :: ys => .cons (.str y) (dp_strs ys)
/-- sorted(d): the texts that are d's keys, in order -/
theorem de_sortedD {ks : List Str} (hc : X.calm = true) (hg : Gl X "sorted") (hm : X.mg "sorted" = none) (ha : PE X e (tG Ex σ H (IsDic X.K kds))) (hk : kds.map (·.1) = ks.map Sum.inr) (h64 : ks.length < 64) {ys : List Str} (un : ∀ zs : List Str, zs.Perm ks → sortedS zs = true → zs = ys) (he : starEach [e] X.env = (false, eval e X.env) :: starEach [] X.env := by rfl) :
    PE X (.Call (.Name "sorted" p) [e] [] pos) (tG Ex σ H (Hd X.K (.list (ys.map PyData.str)))) :=
  de_cb rlEx (call_sortedD hc) hg hm (by decide +kernel) (da_cons rlEx mo_dic ha (da_nil rlEx) he) (fun vs H1 _ q Q k => by
    obtain ⟨v, rfl, l, kvs, ev, hl, hd⟩ := all1 q
    subst ev
    refine ⟨l, kvs, ks, rfl, .inl hl, (dicR_keys hd).trans hk, h64, fun zs z hp hs hn => ?_⟩
    cases un zs hp hs
    exact k _ _ (Ex.new hn) (.lst (.inl (.inl upd_same)) (dp_strs _))) (he := he)
def keyD : Key → PyData
  | .inl i => .int i
  | .inr x => .str x
theorem keyD_ok {K : Fg} : ∀ (k : Key) (H' : Hp), Dp K H' (kV k) (keyD k)
  | .inl i, _ => .int i
  | .inr x, _ => .str x
/-! ### a tuple known to its object -/
def IsFz (K : Fg) (ds : List PyData) : Pv := fun v H => ∃ a o xs, v = .ref a ∧ H a = some (.frz o (.tup xs)) ∧ o.dict = none ∧ DpAll K H xs ds
theorem mo_fz {R : Rel} (r : Rl R) {K : Fg} {ds : List PyData} : Mo R (IsFz K ds) := fun _ _ _ x ⟨a, o, xs, e, h, d, q⟩ => ⟨a, o, xs, e, r.keep x h ⟨(fun _ z => by cases z), fun _ z => by cases z⟩, d, r.dpAll x q⟩
theorem fz_dp {K : Fg} {ds : List PyData} {v : V} {H : Hp} (h : IsFz K ds v H) : Dp K H v (.tuple ds) := by
  obtain ⟨a, o, xs, rfl, h, _, q⟩ := h
  exact .tup (.inl (.inr ⟨o, h⟩)) q
theorem call_tupleFz : CallR X (.type "tuple") (fun xs H Q => ∃ q ys, xs = [.ref q] ∧ SqL X.K H q ys ∧ ∀ l o, H l = none → o.dict = none → Q (.ref l) (upd H l (.frz o (.tup ys)))) := by
  intro pins s σ H xs us Q I r h
  obtain ⟨q, ys, rfl, hq, k⟩ := h
  obtain ⟨u, rfl, rx⟩ := vals1 r
  cases rx
  obtain ⟨its, r', pl, hz⟩ := I.list hq
  have ln := r'.length
  refine call_tuple_list pl.isList (fun h' kp => ?_) (by simp only [List.size_toArray] <;> omega)
  have J : Inv X pins σ H { s with heap := h' } := I.kept (t' := s.toks) kp
  have at_ : (h'.push { cls := .type "tuple", data := .seq its.toArray }).get? h'.objs.size = some { cls := .type "tuple", data := .seq its.toArray } := Heap.get?_push_size _ rfl
  exact ⟨.ref h'.objs.size, _, J.laid (t' := s.toks) (o := .frz { cls := .type "tuple", data := .seq its.toArray } (.tup ys)) (fun b o e => Heap.get?_push_of_some _ e) (Nat.le_refl _) ⟨at_, hz, its, r', IsTup.new _ _⟩, rfl, k _ _ (J.hok.fresh (Nat.le_refl _)) rfl⟩
/-- tuple(l), l a list: known to its object -/
theorem de_tupleF {ds : List PyData} (r : Rl R) (hg : Gl X "tuple") (hm : X.mg "tuple" = none) (ha : PE X e (tG R σ H (Hd X.K (.list ds)))) (he : starEach [e] X.env = (false, eval e X.env) :: starEach [] X.env := by rfl) :
    PE X (.Call (.Name "tuple" p) [e] [] pos) (tG R σ H (IsFz X.K ds)) :=
  de_ct r call_tupleFz hg hm (by decide +kernel) (da_cons r (mo_d r) ha (da_nil r) he) (fun vs H1 _ q Q k => by
    obtain ⟨v, rfl, h⟩ := all1 q
    obtain ⟨a, xs, rfl, h1, h2⟩ := dp_lst h
    exact ⟨a, xs, rfl, h1, fun l o hl ho => k _ _ (r.ex (Ex.new hl)) ⟨l, o, xs, rfl, upd_same, ho, r.dpAll (r.ex (Ex.new hl)) h2⟩⟩) (he := he)
/-! ### dict(t), t a tuple of pairs -/
theorem raw_pairs {pins : List (Addr × Obj)} {s : Shared} (I : Inv X pins σ H s) : ∀ {ps : List Addr} {kvs : List (Key × V)}, Paired (fun p kv => SqT X.K H p [kV kv.1, kv.2]) ps kvs →
    ∃ (rps : List (Value × Value)) (prs : List (Key × Value)), KV kvs prs ∧ rps.length = ps.length ∧ prs.length = ps.length ∧ ∀ (j : Nat) (k v : Value), rps[j]? = some (k, v) → ∃ (b : Addr) (key : Key), ps[j]? = some b ∧ s.heap.IsTuple b #[k, v] ∧ prs[j]? = some (key, v) ∧ keyIs key k = true
  | _, _, .nil => ⟨[], [], .nil, rfl, rfl, fun j k v e => by simp at e⟩
  | _, _, .cons (a := p) (b := kv) h t => by
    obtain ⟨rps, prs, r, l1, l2, hp⟩ := raw_pairs I t
    obtain ⟨its, rv, ht, _⟩ := I.tuple h
    obtain ⟨u, y, ei, ru, ry⟩ := vals2 rv
    subst ei
    refine ⟨(u, y) :: rps, (kv.1, y) :: prs, .cons ⟨rfl, ry⟩ r, by rw [List.length_cons, List.length_cons, l1], by rw [List.length_cons, List.length_cons, l2], fun j k v e => ?_⟩
    cases j with
    | zero =>
      have e' : (u, y) = (k, v) := Option.some.inj (by simpa using e)
      cases e'
      exact ⟨p, kv.1, rfl, ht, rfl, kV_is (P := X.prog) (w := X.w) ru⟩
    | succ j =>
      obtain ⟨b, key, e1, e2, e3, e4⟩ := hp j k v (by simpa using e)
      exact ⟨b, key, by simpa using e1, e2, by simpa using e3, e4⟩
theorem call_dictF (hc : X.calm = true) : CallR X (.type "dict") (fun xs H Q => ∃ (a : Addr) (o : Obj) (ps : List Addr) (kvs : List (Key × V)), xs = [.ref a] ∧ H a = some (.frz o (.tup (ps.map V.ref))) ∧ o.dict = none ∧ Paired (fun p kv => SqT X.K H p [kV kv.1, kv.2]) ps kvs ∧
    ∀ q, H q = none → Q (.ref q) (upd H q (.dK (mergeK [] kvs)))) := by
  intro pins s σ H xs us Q I r h
  obtain ⟨a, o, ps, kvs, rfl, ha, hd, hp, k⟩ := h
  obtain ⟨u, rfl, rx⟩ := vals1 r
  cases rx
  obtain ⟨ho, hz, its, rv, ht⟩ := (show ObjOk X.prog X.w H s.heap a (.frz o (.tup (ps.map V.ref))) from I.hok a _ ha)
  have ei := refs_at rv
  subst ei
  rw [List.length_map] at hz
  obtain ⟨rps, prs, rel, l1, l2, hpr⟩ := raw_pairs I hp
  obtain ⟨o2, ho2, hc2, n, hdat⟩ := ht
  rw [ho] at ho2
  cases ho2
  have tsAt : ∀ {j : Nat} {b : Addr}, ps[j]? = some b → ps.getD j 0 = b := fun {j b} e => by rw [List.getD_eq_getElem?_getD, e]; rfl
  refine PySem.call_dict_pairs (knd := mixKind X.prog X.w) (kvs := prs) (PairArg.tuple (prog := X.prog) (w := X.w) a (ps.map Value.ref).toArray (fun j => ps.getD j 0) rps) (I.ok.hd hc) ⟨⟨o, n, ho, hc2, hd, hdat⟩, ?_, fun j k v e => ?_⟩ ⟨?_, fun i key v e => ?_⟩ ?_ fun h' tk hd' kp => ?_
  · rw [List.size_toArray, List.length_map, l1]
  · obtain ⟨b, key, e1, e2, _, _⟩ := hpr j k v e
    refine ⟨?_, ?_⟩
    · show (ps.map Value.ref).toArray[j]? = some (.ref (ps.getD j 0))
      rw [tsAt e1]
      simp [e1]
    · show PairAt s.heap (ps.getD j 0) k v
      rw [tsAt e1]
      exact .inl e2
  · rw [l2, l1]
  · obtain ⟨b, k, e1, e2, e3, e4⟩ := hpr i key v e
    exact ⟨k, e3, e4⟩
  · rw [l1]; exact hz
  · have hm : (s.heap.objs.size == sysModules) = false := beq_eq_false_iff_ne.mpr (Nat.ne_of_gt I.big)
    have hlen : (mergeK [] kvs).length ≤ sizeLine := by
      refine Nat.le_trans (length_mergeK kvs []) ?_
      rw [List.length_nil, Nat.zero_add, rel.length, l2]
      exact hz
    exact ⟨.ref s.heap.objs.size, upd H s.heap.objs.size (.dK (mergeK [] kvs)), I.laid (t' := tk) (fun b o e => kp b o (by simp) e) (Nat.le_refl _) (dk_new hlen hm (KV.merge rel .nil) hd'), rfl, k _ (I.hok.fresh (Nat.le_refl _))⟩
/-- the pairs of a tuple of pairs, as a dict would have them -/
theorem pair_refs {K : Fg} {H : Hp} {α : Type} {f : α → PyData} : ∀ {l : List (Str × α)} {xs : List V}, DpAll K H xs (l.map fun p => .tuple [.str p.1, f p.2]) →
    ∃ (ps : List Addr) (kvs : List (Key × V)), xs = ps.map V.ref ∧ Paired (fun p kv => SqT K H p [kV kv.1, kv.2]) ps kvs ∧ DicR K H kvs (l.map fun p => ((Sum.inr p.1 : Key), f p.2))
  | [], _, h => by cases h; exact ⟨[], [], rfl, .nil, .nil⟩
  | p :: l, _, h => by
    cases h with
    | cons h1 h2 =>
      obtain ⟨a, xs, rfl, hq, hd⟩ := dp_tup h1
      obtain ⟨ps, kvs, e1, e2, e3⟩ := pair_refs h2
      cases hd with
      | cons d1 t =>
        cases t with
        | cons d2 t =>
          cases t
          cases dp_str d1
          exact ⟨a :: ps, (Sum.inr p.1, _) :: kvs, by rw [e1]; rfl, .cons hq e2, .cons ⟨rfl, d2⟩ e3⟩
theorem mergeK_nodup {kvs more : List (Key × V)} (h : ((kvs ++ more).map (·.1)).Nodup) : mergeK kvs more = kvs ++ more := by
  induction more generalizing kvs with
  | nil => simp [mergeK]
  | cons p r ih =>
    have fresh : valV kvs p.1 = none := by
      cases q : valV kvs p.1 with
      | none => rfl
      | some v =>
        have z : (kvs.any fun kv => decide (kv.1 = p.1)) = true := by rw [valV_any, q]; rfl
        obtain ⟨y, m1, m2⟩ := List.any_eq_true.mp z
        rw [List.map_append, List.map_cons, List.nodup_append] at h
        exact absurd rfl (h.2.2 _ (List.mem_map.mpr ⟨y, m1, of_decide_eq_true m2⟩) _ List.mem_cons_self)
    show mergeK (putK kvs p.1 p.2) r = _
    rw [putK_new p.2 fresh, ih (by simpa using h)]
    simp
theorem de_dictF {α : Type} {l : List (Str × α)} {f : α → PyData} (hc : X.calm = true) (hg : Gl X "dict") (hm : X.mg "dict" = none) (ha : PE X e (tG Ex σ H (IsFz X.K (l.map fun p => .tuple [.str p.1, f p.2])))) (nd : (l.map (·.1)).Nodup) (he : starEach [e] X.env = (false, eval e X.env) :: starEach [] X.env := by rfl) :
    PE X (.Call (.Name "dict" p) [e] [] pos) (tG Ex σ H (IsDic X.K (l.map fun p => (Sum.inr p.1, f p.2)))) :=
  de_ct rlEx (call_dictF hc) hg hm (by decide +kernel) (da_cons rlEx (mo_fz rlEx) ha (da_nil rlEx) he) (fun vs H1 _ q Q k => by
    obtain ⟨v, rfl, a, o, xs, rfl, h, hd, hall⟩ := all1 q
    obtain ⟨ps, kvs, rfl, e2, e3⟩ := pair_refs hall
    refine ⟨a, o, ps, kvs, rfl, h, hd, e2, fun z hz => k _ _ (Ex.new hz) ⟨z, _, rfl, upd_same, ?_⟩⟩
    have ndk : ((([] : List (Key × V)) ++ kvs).map (·.1)).Nodup := by
      rw [List.nil_append, dicR_keys e3, List.map_map]
      have e : (l.map ((fun x : Key × PyData => x.1) ∘ fun p : Str × α => ((Sum.inr p.1 : Key), f p.2))) = (l.map (·.1)).map Sum.inr := by rw [List.map_map]; rfl
      rw [e]
      exact List.Pairwise.map _ (fun a b h e => h (Sum.inr.inj e)) nd
    rw [mergeK_nodup ndk]
    exact e3.mono rlEx (Ex.new hz)) (he := he)
end
end Lf
set_option maxHeartbeats 4000000
/-! K7: a change against a schema. -/
namespace Lf
open PySem PySem.Spec L2
open PyProof.Rows hiding St
abbrev Hs (K : Fg) (sch : Sch) : Pv := IsFz K (sch.map dCls)
theorem hs_dp {K : Fg} {sch : Sch} {v : V} {H : Hp} (h : Hs K sch v H) : Dp K H v (dSch sch) := fz_dp h
theorem fndK_of {α : Type} {f : α → PyData} {c : Str} : ∀ {l : List (Str × α)}, fndK (Sum.inr c) (l.map fun p => ((Sum.inr p.1 : Key), f p.2)) = (fnd c l).map f
  | [] => rfl
  | p :: l => by
    rw [List.map_cons]
    unfold fndK fnd
    by_cases z : p.1 = c
    · rw [if_pos z, if_pos (by rw [z])]; rfl
    · rw [if_neg z, if_neg (fun e => z (Sum.inr.inj e))]
      exact fndK_of
theorem rising_at {xs : List Str} {i : Nat} {x y : Str} (h : rising xs = true) (hx : xs[i]? = some x) (hy : xs[i + 1]? = some y) : sLt x y = true := by
  unfold rising at h
  rw [List.all_eq_true] at h
  refine h (x, y) (List.mem_of_getElem? (i := i) ?_)
  rw [List.getElem?_zip_eq_some]
  exact ⟨hx, by rw [List.getElem?_drop, Nat.add_comm]; exact hy⟩
/-- a slot that holds a tuple known to its object -/
theorem vf {X : Cx} {σ : St} {H H0 : Hp} {x : Str} {pos : Pos} {v : V} {ds : List PyData} (i : Nat) (h : IsFz X.K ds v H0) (e : Ex H0 H) (hs : σ[i]? = some (some v) := by rfl) (hN : X.N[i]? = some x := by rfl) (vis : Vis X.env.scope x := by first | exact .inl rfl | exact .inr (.inl rfl) | exact .inr (.inr rfl))
    (hd : (x == ("__debug__" : Str)) = false := by decide) (hcd : (x == ("__classdict__" : Str)) = false := by decide) : PE X (.Name x pos) (tG Ex σ H (IsFz X.K ds)) :=
  de_var (i := i) rlEx hs (mo_fz rlEx) (mo_fz rlEx _ _ _ e h) hN vis hd hcd
/-- a slot that holds a dict -/
theorem vdc {X : Cx} {σ : St} {H H0 : Hp} {x : Str} {pos : Pos} {v : V} {kds : DL} (i : Nat) (h : IsDic X.K kds v H0) (e : Ex H0 H) (hs : σ[i]? = some (some v) := by rfl) (hN : X.N[i]? = some x := by rfl) (vis : Vis X.env.scope x := by first | exact .inl rfl | exact .inr (.inl rfl) | exact .inr (.inr rfl))
    (hd : (x == ("__debug__" : Str)) = false := by decide) (hcd : (x == ("__classdict__" : Str)) = false := by decide) : PE X (.Name x pos) (tG Ex σ H (IsDic X.K kds)) :=
  de_var (i := i) rlEx hs mo_dic (mo_dic _ _ _ e h) hN vis hd hcd
/-- the places of two names, of three, within a pair -/
theorem g13 {K : Fg} {σ : St} {H : Hp} {i j l m : Nat} {v : V} {d1 d2 d3 d4 : PyData} {Q : St → Hp → Prop} (h : Dp K H v (.tuple [d1, .tuple [d2, d3, d4]])) (k : ∀ v1 v2 v3 v4, Dp K H v1 d1 → Dp K H v2 d2 → Dp K H v3 d3 → Dp K H v4 d4 → Q ((((σ.set i (some v1)).set j (some v2)).set l (some v3)).set m (some v4)) H) :
    gTup K 2 (gCons (gName i) (gCons (gTup K 3 (gCons (gName j) (gCons (gName l) (gCons (gName m) gNil)))) gNil)) v σ H Q := by
  obtain ⟨a, xs, rfl, hq, hd⟩ := dp_tup h
  cases hd with
  | cons h1 t =>
    cases t with
    | cons h2 t =>
      cases t
      exact g2v hq (g3 h2 fun v2 v3 v4 p2 p3 p4 => k _ v2 v3 v4 h1 p2 p3 p4)
theorem g12 {K : Fg} {σ : St} {H : Hp} {i j l : Nat} {v : V} {d1 d2 d3 : PyData} {Q : St → Hp → Prop} (h : Dp K H v (.tuple [d1, .tuple [d2, d3]])) (k : ∀ v1 v2 v3, Dp K H v1 d1 → Dp K H v2 d2 → Dp K H v3 d3 → Q (((σ.set i (some v1)).set j (some v2)).set l (some v3)) H) :
    gTup K 2 (gCons (gName i) (gCons (gTup K 2 (gCons (gName j) (gCons (gName l) gNil))) gNil)) v σ H Q := by
  obtain ⟨a, xs, rfl, hq, hd⟩ := dp_tup h
  cases hd with
  | cons h1 t =>
    cases t with
    | cons h2 t =>
      cases t
      exact g2v hq (g2 h2 fun v2 v3 p2 p3 => k _ v2 v3 h1 p2 p3)
section
variable {P : Program} {w : World} {K : Fg} {mg : Str → Option Value} {base : Heap}
def esSome (r : Row) : Bool := r.es.isSome
def rowFit (sch : Sch) (r : Row) : Prop := ((fnd r.c sch).isSome = r.es.isSome) ∧ ∀ l, r.es = some l → l.length = r.fm.length
def rowsIn (sch : Sch) (rs : List Row) : Prop := (sch.map (·.1)).Nodup ∧ rising (rs.map (·.c)) = true ∧ (∀ r ∈ rs, rowFit sch r) ∧ rs.length < 1000
abbrev spClasses (K : Fg) : Sp := spT (fun _ => Ex) (fun x : Sch × List Row => rowsIn x.1 x.2) (fun x => [Hs K x.1, Hd K (dRows x.2)]) (fun _ => Hd K .none)
theorem f_check_classes (T : Tx K mg) : Fnc P w K mg base 2 "check_classes" (spClasses K) := by
  refine ⟨T.g_check_classes, fna_of T.d_check_classes sc_check_classes bn_check_classes (fun _ => rfl) fun cdv A0 outer s H E x vs Q hr ok ha hQ => ?_⟩
  obtain ⟨sch, rs⟩ := x
  obtain ⟨v, u, rfl, h1, h2⟩ := all2 ha
  obtain ⟨o1, o2, o3, o4⟩ := ok
  have h1 : IsFz K (sch.map fun p => .tuple [.str p.1, dForm p.2]) v H := h1
  have h2 : Dp K H u (.tuple (rs.map dRow)) := h2
  refine bs_set (i := 2) rlEx sc_check_classes.nd rfl (.inl rfl) (de_dictF rfl rfl T.z_dict (vf 0 h1 (Ex.rfl' _)) o1) fun kv H1 e1 hk => ?_
  refine bs_for (g := gTup K 2 (gCons (gName 3) (gCons (gTup K 3 (gCons (gName 4) (gCons (gName 5) (gCons (gName 6) gNil)))) gNil))) rlEx PassesOwn.never rfl (src_enumT (src := rs) (f := dRow) rlEx rfl T.z_enumerate (vdm 1 h2 e1))
    (pg_tup rfl (pgs_cons (pg_name (i := 3) sc_check_classes.nd rfl (.inl rfl)) (pgs_cons (pg_tup rfl (pgs_cons (pg_name (i := 4) sc_check_classes.nd rfl (.inl rfl)) (pgs_cons (pg_name (i := 5) sc_check_classes.nd rfl (.inl rfl)) (pgs_cons (pg_name (i := 6) sc_check_classes.nd rfl (.inl rfl)) pgs_nil)))) pgs_nil)))
    (fun H2 i σ' H' => ∃ a b c d, σ' = [some v, some u, some kv, a, b, c, d] ∧ Ex H2 H') (fun H2 _ => ⟨_, _, _, _, rfl, Ex.rfl' _⟩) (fun H2 i σ' H' _ _ ⟨_, _, _, _, _, e⟩ => e) ?_ ?_
  · rintro H2 i ⟨r, n⟩ y σ' H' H'' e2 hp ⟨a, b, c, d, rfl, e3⟩ e4 hy
    obtain ⟨hr0, rfl⟩ : rs[i]? = some r ∧ n = i := by
      rw [List.getElem?_zipIdx] at hp
      cases q : rs[i]? with
      | none => rw [q] at hp; cases hp
      | some z => rw [q] at hp; cases hp; exact ⟨rfl, by omega⟩
    have rin := List.mem_of_getElem? hr0
    obtain ⟨f1, f2⟩ := o3 r rin
    have ee : Ex H1 H'' := Ex.tr (Ex.tr e2 e3) e4
    refine g13 hy fun v1 v2 v3 v4 p1 p2 p3 p4 => ?_
    have p1 : Dp K H'' v1 (.int (n : Nat)) := p1
    have hrow : (if n = 0 then true else false) = true ∨ ∃ q, rs[n - 1]? = some q ∧ sLt q.c r.c = true := by
      cases n with
      | zero => exact .inl rfl
      | succ m =>
        have lt : m + 1 < rs.length := (List.getElem?_eq_some_iff.mp hr0).1
        have hq : rs[m]? = some (rs[m]'(by omega)) := List.getElem?_eq_getElem _
        exact .inr ⟨rs[m]'(by omega), hq, rising_at o2 (by rw [List.getElem?_map, hq]; rfl) (by rw [List.getElem?_map, hr0]; rfl)⟩
    refine bs_expr rlEx (cE (f_require_change T) ("class", .int (n : Nat)) hr trivial (ar3 (d1 := .bool true) (de_is (de_or (c := decide (((n : Nat) : Int) = 0)) (c' := true) rlEx (de_eqI rlEx (vd 3 p1) (de_int rlEx)) fun z => ?_) (by simp)) (de_str rlEx) (vd 3 p1))) fun _ H5 e5 _ => ?_
    · rcases hrow with h0 | ⟨q, hq, hlt⟩
      · have : n = 0 := by simpa using h0
        subst this
        exact absurd z (by decide)
      · have n0 : n ≠ 0 := fun e => by subst e; exact absurd z (by decide)
        refine de_one (de_is (de_ltS (x := q.c) (y := r.c) rlEx (de_ixT (ds := [.str q.c, dForm q.fm, opt dEs q.es]) rlEx (de_is (de_ixT (i := ((n : Nat) : Int) - 1) (d := dRow q) rlEx (vdm 1 h2 (Ex.tr e1 ee)) (de_opI0 rlEx op_sub (vd 3 p1) (de_int rlEx)) ?_) rfl) (de_int rlEx) rfl) (vd 4 p2)) (congrArg PyData.bool hlt))
        unfold atI ixN
        have lt : n - 1 < rs.length := (List.getElem?_eq_some_iff.mp hq).1
        rw [if_pos (by omega), if_pos (by rw [List.length_map]; omega)]
        show (rs.map dRow)[(((n : Nat) : Int) - 1).toNat]? = some (dRow q)
        rw [show (((n : Nat) : Int) - 1).toNat = n - 1 by omega, List.getElem?_map, hq]
        rfl
    refine bs_expr rlEx (cE (f_require_change T) ("new", .int (n : Nat)) hr trivial (ar3 (d1 := .bool true) (de_is (de_neB rlEx (de_inD hr (vd 4 (rlEx.dp e5 p2)) (vdc 2 hk (Ex.tr ee e5))) (de_isN rlEx (vd 6 (rlEx.dp e5 p4)))) ?_) (de_str rlEx) (vd 3 (rlEx.dp e5 p1)))) fun _ H6 e6 _ => ?_
    · rw [fndK_of, Option.isSome_map, f1]
      cases r.es <;> rfl
    have e56 : Ex H'' H6 := Ex.tr e5 e6
    refine bs_expr rlEx (cE (f_require_change T) ("many", .int (n : Nat)) hr trivial (ar3 (d1 := .bool true) (de_is (de_or (c := isNon (opt dEs r.es)) (c' := true) rlEx (de_isN rlEx (vd 6 (rlEx.dp e56 p4))) fun z => ?_) (by simp)) (de_str rlEx) (vd 3 (rlEx.dp e56 p1)))) fun _ H7 e7 _ => bs_nil ⟨_, _, _, _, rfl, Ex.tr (Ex.tr (Ex.tr e3 e4) e56) e7⟩
    cases q : r.es with
    | none => rw [q] at z; cases z
    | some l =>
      rw [q] at p4
      have p4 : Dp K H'' v4 (.tuple (l.map dE)) := p4
      have p3 : Dp K H'' v3 (.tuple (r.fm.map dFld)) := p3
      exact de_one (de_is (de_eqI rlEx (de_lenT rlEx rfl T.z_len (vd 6 (rlEx.dp e56 p4))) (de_lenT rlEx rfl T.z_len (vd 5 (rlEx.dp e56 p3)))) (by rw [List.length_map, List.length_map, f2 l q]; simp))
  · rintro H2 σ' H' e2 ⟨a, b, c, d, rfl, e3⟩
    exact bs_nil (hQ _ _ (Ex.tr (Ex.tr e1 e2) e3) .non)
end
end Lf
set_option maxHeartbeats 4000000
/-! K8: links, expressions, the change as a whole. -/
namespace Lf
open PySem PySem.Spec L2
open PyProof.Rows hiding St
theorem zipIdx_at {α : Type} {l : List α} {i n : Nat} {r : α} (hp : l.zipIdx[i]? = some (r, n)) : l[i]? = some r ∧ n = i := by
  rw [List.getElem?_zipIdx] at hp
  cases q : l[i]? with
  | none => rw [q] at hp; cases hp
  | some z => rw [q] at hp; cases hp; exact ⟨rfl, by omega⟩
def linksOk (sch : Sch) (rs : List Row) : Prop := ∀ r ∈ rs, ∀ p ∈ r.fm, ∀ c, p.2 = .cls c → c ∈ sch.map (·.1) ++ rs.map (·.c)
def fitsOk (sch : Sch) (rs : List Row) : Prop := ∀ r ∈ rs, ∀ l, r.es = some l → ∀ (i : Nat) (e : Ek), l[i]? = some e → ∃ p, r.fm[i]? = some p ∧ kdOk p.2 ∧ suits sch r.c p.2 e
section
variable {P : Program} {w : World} {K : Fg} {mg : Str → Option Value} {base : Heap}
abbrev spLinks (K : Fg) : Sp := spT (fun _ => Ex) (fun x : Sch × List Row => linksOk x.1 x.2 ∧ x.1.length + x.2.length < 1000) (fun x => [Hd K (dSch x.1), Hd K (dRows x.2)]) (fun _ => Hd K .none)
theorem f_check_links (T : Tx K mg) : Fnc P w K mg base 2 "check_links" (spLinks K) := by
  refine ⟨T.g_check_links, fna_of T.d_check_links sc_check_links bn_check_links (fun _ => rfl) fun cdv A0 outer s H E x vs Q hr ok ha hQ => ?_⟩
  obtain ⟨sch, rs⟩ := x
  obtain ⟨v, u, rfl, h1, h2⟩ := all2 ha
  obtain ⟨o1, o2⟩ := ok
  have o2 : sch.length + rs.length < 1000 := o2
  have h1 : Dp K H v (.tuple (sch.map dCls)) := h1
  have h2 : Dp K H u (.tuple (rs.map dRow)) := h2
  have big : 1000 ≤ sizeLine := by decide
  refine bs_set (i := 2) rlEx sc_check_links.nd rfl (.inl rfl) (φ := OL K (sch.map (fun p => PyData.str p.1) ++ rs.map fun r => PyData.str r.c)) (de_catO rlEx ?_ ?_ (by rw [List.length_map, List.length_map]; omega)) fun lv H1 e1 hl => ?_
  · exact de_lcMO (own := [("cls", 4), ("form", 5)]) (g := gTup K 2 (gCons (gName 4) (gCons (gName 5) gNil))) (eo := fun p : Str × Form => PyData.str p.1) rlEx rfl sc_check_links.nd (blkOk_by (N := ["schema", "rows", "classes", "k", "cls", "form", "expressions", "f", "field", "kind", "row"]) (sc := defScope s_check_links) (by decide +kernel)) (src_tup (src := sch) (f := dCls) rlEx (vd 0 h1)) (by omega) (fun _ _ => rfl)
      (fun _ _ _ _ _ => pg_tup rfl (pgs_cons (pg_name (i := 4) sc_check_links.nd rfl (.inl rfl)) (pgs_cons (pg_name (i := 5) sc_check_links.nd rfl (.inl rfl)) pgs_nil))) gm_2 fun c y H3 _ _ hy => g2 hy fun v1 v2 p1 p2 => ⟨rfl, Ex.rfl' _, fun H4 e4 _ _ _ _ _ => vd 4 (rlEx.dp e4 p1)⟩
  · exact de_lcMO (own := [("row", 10)]) (g := gName 10) (eo := fun r : Row => PyData.str r.c) rlEx rfl sc_check_links.nd (blkOk_by (N := ["schema", "rows", "classes", "k", "cls", "form", "expressions", "f", "field", "kind", "row"]) (sc := defScope s_check_links) (by decide +kernel)) (src_tup (src := rs) (f := dRow) rlEx (vd 1 h2)) (by omega) (fun _ _ => rfl)
      (fun _ _ _ _ _ => pg_name (i := 10) sc_check_links.nd rfl (.inl rfl)) gm_name fun r y H3 _ _ hy => ⟨rfl, Ex.rfl' _, fun H4 e4 _ _ _ _ _ => de_ixT (ds := [.str r.c, dForm r.fm, opt dEs r.es]) rlEx (vd 10 (rlEx.dp e4 hy)) (de_int rlEx) rfl⟩
  have hl : Dp K H1 lv (.list ((sch.map (·.1) ++ rs.map (·.c)).map PyData.str)) := by
    have z := ol_dp hl
    rw [List.map_append, List.map_map, List.map_map]
    exact z
  refine bs_for (g := gTup K 2 (gCons (gName 3) (gCons (gTup K 3 (gCons (gName 4) (gCons (gName 5) (gCons (gName 6) gNil)))) gNil))) rlEx PassesOwn.never rfl (src_enumT (src := rs) (f := dRow) rlEx rfl T.z_enumerate (vdm 1 h2 e1))
    (pg_tup rfl (pgs_cons (pg_name (i := 3) sc_check_links.nd rfl (.inl rfl)) (pgs_cons (pg_tup rfl (pgs_cons (pg_name (i := 4) sc_check_links.nd rfl (.inl rfl)) (pgs_cons (pg_name (i := 5) sc_check_links.nd rfl (.inl rfl)) (pgs_cons (pg_name (i := 6) sc_check_links.nd rfl (.inl rfl)) pgs_nil)))) pgs_nil)))
    (fun H2 i σ' H' => ∃ a b c d f g h, σ' = [some v, some u, some lv, a, b, c, d, f, g, h, none] ∧ Ex H2 H') (fun H2 _ => ⟨_, _, _, _, _, _, _, rfl, Ex.rfl' _⟩) (fun H2 i σ' H' _ _ ⟨_, _, _, _, _, _, _, _, e⟩ => e) ?_ ?_
  · rintro H2 i ⟨r, n⟩ y σ' H' H'' e2 hp ⟨a, b, c, d, f, g, h, rfl, e3⟩ e4 hy
    obtain ⟨hr0, rfl⟩ := zipIdx_at hp
    have rin := List.mem_of_getElem? hr0
    have ee : Ex H1 H'' := Ex.tr (Ex.tr e2 e3) e4
    refine g13 hy fun v1 v2 v3 v4 p1 p2 p3 p4 => ?_
    have p1 : Dp K H'' v1 (.int (n : Nat)) := p1
    have p3 : Dp K H'' v3 (.tuple (r.fm.map dFld)) := p3
    refine bs_for (g := gTup K 2 (gCons (gName 7) (gCons (gTup K 2 (gCons (gName 8) (gCons (gName 9) gNil))) gNil))) rlEx PassesOwn.never rfl (src_enumT (src := r.fm) (f := dFld) rlEx rfl T.z_enumerate (vd 5 p3))
      (pg_tup rfl (pgs_cons (pg_name (i := 7) sc_check_links.nd rfl (.inl rfl)) (pgs_cons (pg_tup rfl (pgs_cons (pg_name (i := 8) sc_check_links.nd rfl (.inl rfl)) (pgs_cons (pg_name (i := 9) sc_check_links.nd rfl (.inl rfl)) pgs_nil))) pgs_nil)))
      (fun H5 i σ' H' => ∃ f g h, σ' = [some v, some u, some lv, some v1, some v2, some v3, some v4, f, g, h, none] ∧ Ex H5 H') (fun H5 _ => ⟨_, _, _, rfl, Ex.rfl' _⟩) (fun H5 i σ' H' _ _ ⟨_, _, _, _, e⟩ => e) ?_ ?_
    · rintro H5 i2 ⟨q, n2⟩ y2 σ2 H6 H7 e5 hq ⟨f, g, h, rfl, e6⟩ e7 hy2
      obtain ⟨hq0, rfl⟩ := zipIdx_at hq
      have qin := List.mem_of_getElem? hq0
      have e57 : Ex H'' H7 := Ex.tr (Ex.tr e5 e6) e7
      refine g12 hy2 fun w1 w2 w3 q1 q2 q3 => ?_
      have q1 : Dp K H7 w1 (.int (n2 : Nat)) := q1
      refine bs_expr rlEx (cE (f_require_change T) ("link", .tuple [.int (n : Nat), .int (n2 : Nat)]) hr trivial (ar3 (d1 := .bool true) (de_is (de_or (c := isRng q.2) (c' := true) rlEx (de_isi (d := dK q.2) rlEx rfl T.z_isinstance (vd 9 q3) (vty (T := "tuple") rlEx T.z_tuple) ?_) fun z => ?_) (by simp)) (de_str rlEx) (de_tup rlEx (dd_cons rlEx (vd 3 (rlEx.dp e57 p1)) (dd_cons rlEx (vd 7 q1) (dd_nil rlEx)))))) fun _ H8 e8 _ => bs_nil ⟨_, _, _, rfl, Ex.tr (Ex.tr e6 e7) e8⟩
      · cases q.2 <;> exact kit_Tup _
      · cases qk : q.2 with
        | rng lo hi => rw [qk] at z; cases z
        | cls cc =>
          rw [qk] at q3
          refine de_one (de_is (de_inL rlEx (x := cc) (vd 9 q3) (vdm 2 hl (Ex.tr ee e57))) (congrArg PyData.bool ?_))
          rw [inV_strs]
          exact decide_eq_true (o1 r rin q qin cc qk)
    · rintro H5 σ2 H6 e5 ⟨f, g, h, rfl, e6⟩
      exact bs_nil ⟨_, _, _, _, _, _, _, rfl, Ex.tr (Ex.tr (Ex.tr e3 e4) e5) e6⟩
  · rintro H2 σ' H' e2 ⟨a, b, c, d, f, g, h, rfl, e3⟩
    exact bs_nil (hQ _ _ (Ex.tr (Ex.tr e1 e2) e3) .non)
abbrev spFitsC (K : Fg) : Sp := spT (fun _ => Ex) (fun x : Sch × List Row => fitsOk x.1 x.2) (fun x => [Hd K (dSch x.1), Hd K (dRows x.2)]) (fun _ => Hd K .none)
theorem f_check_fits (T : Tx K mg) (Te' : Te mg) : Fnc P w K mg base 7 "check_fits" (spFitsC K) := by
  refine ⟨T.g_check_fits, fna_of T.d_check_fits sc_check_fits bn_check_fits (fun _ => rfl) fun cdv A0 outer s H E x vs Q hr ok ha hQ => ?_⟩
  obtain ⟨sch, rs⟩ := x
  obtain ⟨v, u, rfl, h1, h2⟩ := all2 ha
  have ok : fitsOk sch rs := ok
  have h2 : Dp K H u (.tuple (rs.map dRow)) := h2
  refine bs_for (g := gTup K 2 (gCons (gName 2) (gCons (gTup K 3 (gCons (gName 3) (gCons (gName 4) (gCons (gName 5) gNil)))) gNil))) rlEx PassesOwn.never rfl (src_enumT (src := rs) (f := dRow) rlEx rfl T.z_enumerate (vd 1 h2))
    (pg_tup rfl (pgs_cons (pg_name (i := 2) sc_check_fits.nd rfl (.inl rfl)) (pgs_cons (pg_tup rfl (pgs_cons (pg_name (i := 3) sc_check_fits.nd rfl (.inl rfl)) (pgs_cons (pg_name (i := 4) sc_check_fits.nd rfl (.inl rfl)) (pgs_cons (pg_name (i := 5) sc_check_fits.nd rfl (.inl rfl)) pgs_nil)))) pgs_nil)))
    (fun H2 i σ' H' => ∃ a b c d f g, σ' = [some v, some u, a, b, c, d, f, g] ∧ Ex H2 H') (fun H2 _ => ⟨_, _, _, _, _, _, rfl, Ex.rfl' _⟩) (fun H2 i σ' H' _ _ ⟨_, _, _, _, _, _, _, e⟩ => e) ?_ ?_
  · rintro H2 i ⟨r, n⟩ y σ' H' H'' e2 hp ⟨a, b, c, d, f, g, rfl, e3⟩ e4 hy
    obtain ⟨hr0, rfl⟩ := zipIdx_at hp
    have rin := List.mem_of_getElem? hr0
    have ee : Ex H H'' := Ex.tr (Ex.tr e2 e3) e4
    refine g13 hy fun v1 v2 v3 v4 p1 p2 p3 p4 => ?_
    have p1 : Dp K H'' v1 (.int (n : Nat)) := p1
    have ed : (if truD (opt dEs r.es) = true then opt dEs r.es else .tuple []) = .tuple ((r.es.getD []).map dE) := by
      cases r.es with
      | none => rfl
      | some l => cases l <;> rfl
    have ns : noStr (opt dEs r.es) = true := by cases r.es <;> rfl
    have p3 : Dp K H'' v3 (.tuple (r.fm.map dFld)) := p3
    refine bs_for (g := gTup K 2 (gCons (gName 6) (gCons (gName 7) gNil))) rlEx PassesOwn.never rfl (src_enumT (src := r.es.getD []) (f := dE) rlEx rfl T.z_enumerate (de_is (de_orD rlEx (vd 5 p4) ns (de_one (de_tup rlEx (dd_nil rlEx)))) ed))
      (pg_tup rfl (pgs_cons (pg_name (i := 6) sc_check_fits.nd rfl (.inl rfl)) (pgs_cons (pg_name (i := 7) sc_check_fits.nd rfl (.inl rfl)) pgs_nil)))
      (fun H5 i σ' H' => ∃ f g, σ' = [some v, some u, some v1, some v2, some v3, some v4, f, g] ∧ Ex H5 H') (fun H5 _ => ⟨_, _, rfl, Ex.rfl' _⟩) (fun H5 i σ' H' _ _ ⟨_, _, _, e⟩ => e) ?_ ?_
    · rintro H5 i2 ⟨q, n2⟩ y2 σ2 H6 H7 e5 hq ⟨f, g, rfl, e6⟩ e7 hy2
      obtain ⟨hq0, rfl⟩ := zipIdx_at hq
      have e57 : Ex H'' H7 := Ex.tr (Ex.tr e5 e6) e7
      obtain ⟨l, hl⟩ : ∃ l, r.es = some l := by
        cases z : r.es with
        | none => rw [z] at hq0; simp at hq0
        | some l => exact ⟨l, rfl⟩
      rw [hl] at hq0
      obtain ⟨p, hp0, k1, k2⟩ := ok r rin l hl n2 q (by simpa using hq0)
      refine g2 hy2 fun w1 w2 q1 q2 => ?_
      have q1 : Dp K H7 w1 (.int (n2 : Nat)) := q1
      have lt : n2 < r.fm.length := (List.getElem?_eq_some_iff.mp hp0).1
      refine bs_expr rlEx (cE (f_require_change T) ("fit", .tuple [.int (n : Nat), .int (n2 : Nat)]) hr trivial (ar3 (d1 := .bool true) (cE (f_fits T Te') (sch, r.c, p.2, q) hr ⟨k1, k2⟩ (ar4 (vdm 0 h1 (Ex.tr ee e57)) (vd 3 (rlEx.dp e57 p2)) (de_ixT (ds := [.str p.1, dK p.2]) rlEx (de_is (de_ixT (i := ((n2 : Nat) : Int)) (d := dFld p) rlEx (vd 4 (rlEx.dp e57 p3)) (vd 6 q1) ?_) rfl) (de_int rlEx) rfl) (vd 7 q2))) (de_str rlEx) (de_tup rlEx (dd_cons rlEx (vd 2 (rlEx.dp e57 p1)) (dd_cons rlEx (vd 6 q1) (dd_nil rlEx)))))) fun _ H8 e8 _ => bs_nil ⟨_, _, rfl, Ex.tr (Ex.tr e6 e7) e8⟩
      unfold atI ixN
      rw [if_pos (by omega), if_pos (by rw [List.length_map]; omega)]
      show (r.fm.map dFld)[((n2 : Nat) : Int).toNat]? = some (dFld p)
      rw [show ((n2 : Nat) : Int).toNat = n2 from rfl, List.getElem?_map, hp0]
      rfl
    · rintro H5 σ2 H6 e5 ⟨f, g, rfl, e6⟩
      exact bs_nil ⟨_, _, _, _, _, _, rfl, Ex.tr (Ex.tr (Ex.tr e3 e4) e5) e6⟩
  · rintro H2 σ' H' e2 ⟨a, b, c, d, f, g, rfl, e3⟩
    exact bs_nil (hQ _ _ (Ex.tr e2 e3) .non)
end
end Lf
set_option maxHeartbeats 4000000
/-! K9: lets_change, is_change. -/
namespace Lf
open PySem PySem.Spec L2
open PyProof.Rows hiding St
theorem de_neg {X : Cx} {R : Rel} {σ : St} {H : Hp} {e : Expr} {i : Int} {pos : Pos} (h : PE X e (tG R σ H (Hd X.K (.int i)))) : PE X (.UnaryOp .USub e pos) (tG R σ H (Hd X.K (.int (-i)))) :=
  PE.imp (pe_un un_neg h) fun _ _ _ ⟨e1, h1, k⟩ => ⟨e1, h1, fun v H2 h2 p => ⟨i, dp_int p, k _ H2 h2 (.int _)⟩⟩
/-- a change that is right for a schema -/
structure ChOk (sch : Sch) (rs : List Row) : Prop where
  rows : ∀ r ∈ rs, rowOk r
  inn : rowsIn sch rs
  links : linksOk sch rs
  fits : fitsOk sch rs
  few : sch.length + rs.length < 1000
def nEs (rs : List Row) : Nat := (rs.filter fun r => r.es.isSome).length
section
variable {P : Program} {w : World} {K : Fg} {mg : Str → Option Value} {base : Heap}
abbrev spLets (K : Fg) : Sp := spT (fun _ => Ex) (fun x : Sch × List Row => ChOk x.1 x.2) (fun x => [Hs K x.1, Hd K (dRows x.2)]) (fun x => Hd K (.int (nEs x.2 : Nat)))
theorem f_lets_change (T : Tx K mg) (Te' : Te mg) : Fnc P w K mg base 9 "lets_change" (spLets K) := by
  refine ⟨T.g_lets_change, fna_of T.d_lets_change sc_lets_change bn_lets_change (fun _ => rfl) fun cdv A0 outer s H E x vs Q hr ok ha hQ => ?_⟩
  obtain ⟨sch, rs⟩ := x
  obtain ⟨v, u, rfl, h1, h2⟩ := all2 ha
  have ok : ChOk sch rs := ok
  have h1 : Hs K sch v H := h1
  have h2 : Dp K H u (.tuple (rs.map dRow)) := h2
  have l3 : rs.length < 1000 := ok.inn.2.2.2
  refine bs_expr rlEx (cE (f_require_change T) ("shape", .int (-1)) hr trivial (ar3 (d1 := .bool true) (cE (f_has_change_shape T) rs hr ⟨ok.rows, l3⟩ (ar1 (vd 1 h2))) (de_str rlEx) (de_neg (de_int rlEx)))) fun _ H1 e1 _ => ?_
  refine bs_expr rlEx (cE (f_check_classes T) (sch, rs) hr ok.inn (da_cons rlEx (mo_fz rlEx) (vf 0 h1 e1) (da_cons rlEx (mo_d rlEx) (vdm 1 h2 e1) (da_nil rlEx)))) fun _ H2 e2 _ => ?_
  have e12 := Ex.tr e1 e2
  refine bs_expr rlEx (cE (f_check_links T) (sch, rs) hr ⟨ok.links, ok.few⟩ (ar2 (vdm 0 (hs_dp h1) e12) (vdm 1 h2 e12))) fun _ H3 e3 _ => ?_
  have e13 := Ex.tr e12 e3
  refine bs_expr rlEx (cE (f_check_fits T Te') (sch, rs) hr ok.fits (ar2 (vdm 0 (hs_dp h1) e13) (vdm 1 h2 e13))) fun _ H4 e4 _ => ?_
  have e14 := Ex.tr e13 e4
  refine bs_ret (de_is (de_lenL (ds := (rs.filter fun r => r.es.isSome).map dRow) rlEx rfl T.z_len ?_) (by rw [List.length_map]; rfl)) rlEx fun v' H5 e6 q => hQ v' H5 (Ex.tr e14 e6) q
  exact de_lc (own := [("row", 2)]) (g := gName 2) (bo := fun r : Row => r.es.isSome) (eo := dRow) rlEx rfl sc_lets_change.nd (blkOk_by (N := ["schema", "thing", "row"]) (sc := defScope s_lets_change) (by decide +kernel)) (src_tup (src := rs) (f := dRow) rlEx (vdm 1 h2 e14)) (Nat.lt_of_lt_of_le l3 (by decide)) (fun r _ => nol_row r)
    (fun _ _ _ _ _ => pg_name (i := 2) sc_lets_change.nd rfl (.inl rfl)) gm_name fun r y H' _ _ hy => ⟨rfl, Ex.rfl' _, fun _ _ _ _ _ => dts_one (dt_is (dt_notN rlEx (de_ixT (ds := [.str r.c, dForm r.fm, opt dEs r.es]) rlEx (vd 2 hy) (de_int rlEx) rfl)) (by show (!isNon (opt dEs r.es)) = r.es.isSome; cases r.es <;> rfl)), fun _ H3 e3 _ _ _ _ _ => vd 2 (rlEx.dp e3 hy)⟩
abbrev spIsChange (K : Fg) : Sp := spT (fun _ => Ex) (fun x : Sch × List Row => ChOk x.1 x.2) (fun x => [Hs K x.1, Hd K (dRows x.2)]) (fun x => Hd K (.bool true))
theorem f_is_change (T : Tx K mg) (Te' : Te mg) : Fnc P w K mg base 10 "is_change" (spIsChange K) := by
  refine ⟨T.g_is_change, fna_of T.d_is_change sc_is_change bn_is_change (fun _ => rfl) fun cdv A0 outer s H E x vs Q hr ok ha hQ => ?_⟩
  obtain ⟨sch, rs⟩ := x
  obtain ⟨v, u, rfl, h1, h2⟩ := all2 ha
  obtain ⟨cu, gu⟩ := Te'.paper
  refine bs_try (x := "InvalidPaper") (c := cu) (W := fun _ _ _ _ => False) takes_none rfl rfl ⟨rfl, by decide, .inl gu⟩ fun pn xe hp => ?_
  refine bs_expr rlEx (cE (f_lets_change T Te') (sch, rs) hr ok (da_cons rlEx (mo_fz rlEx) (vf 0 h1 (Ex.rfl' _)) (da_cons rlEx (mo_d rlEx) (vd 1 h2) (da_nil rlEx)))) fun _ H1 e1 _ => bs_nil ?_
  exact bs_ret (de_bl rlEx) rlEx fun v' H5 e6 q => hQ v' H5 (Ex.tr e1 e6) q
end
end Lf
set_option maxHeartbeats 4000000
/-! Sup1: defs that hold the class cell: a call's frame, the rule by the body. -/
namespace Lf
open PySem PySem.Spec L2
open PyProof.Rows hiding St wpAt
/-! ### cells behind a closure -/
theorem cells_acc : ∀ (names : List (Str × NameKind)) (n : Nat) (acc : List (Str × Addr)), cellsFrom n names acc = cellsFrom n names [] ++ acc
  | [], _, _ => rfl
  | (x, k) :: r, n, acc => by
    unfold cellsFrom
    split
    · rw [cells_acc r (n + 1) ((x, n) :: acc), cells_acc r (n + 1) [(x, n)], List.append_assoc]; rfl
    · exact cells_acc r n acc
theorem look_app {α : Type} {x : Str} : ∀ {l m : List (Str × α)}, (l ++ m).lookup x = (l.lookup x).or (m.lookup x)
  | [], _ => rfl
  | (y, v) :: l, m => by
    rw [List.cons_append, List.lookup_cons, List.lookup_cons]
    cases x == y with
    | true => rfl
    | false => exact look_app
theorem forIn_same {α β : Type} {f g : α → β → Sem (ForInStep β)} : ∀ {l : List α} {b : β}, (∀ x ∈ l, ∀ u, f x u = g x u) → forIn l b f = forIn l b g
  | [], _, _ => rfl
  | x :: l, b, h => by
    rw [List.forIn_cons, List.forIn_cons, h x List.mem_cons_self]
    congr 1
    funext r
    cases r with
    | done _ => rfl
    | yield _ => exact forIn_same fun y hy => h y (List.mem_cons_of_mem _ hy)
theorem store_same {env : Env} {own : List (Str × Addr)} {y : Str} {v : Value} (h : env.cells.lookup y = own.lookup y) : storeName env y v = storeName { env with cells := own } y v := by
  unfold storeName PySem.cellOf localSet
  rw [h]
  rfl
abbrev cname : Str := "__class__"
/-- a frame of a def with the class cell -/
theorem new_env {M : Model} {A : Around} {E : Value → Shared → Prop} {s : Shared} {scope : Scope} {globals cc : Addr} {binds : List (Str × Value)} {qual : Str} {func : Option Addr} {code : Value} {builtins : Addr} {Q : Env → Shared → Prop}
    (hk : scope.kind = .function) (hn : ∀ x ∈ binds, x.1 ≠ cname)
    (hkind : ∀ x ∈ binds, scope.names.lookup x.1 = some .local ∨ (scope.names.lookup x.1 = some .cell ∧ ((cellsFrom (s.heap.objs.size + 1) scope.names []).lookup x.1).isSome = true))
    (hQ : ∀ env own, own = newEnv scope s.heap.objs.size globals (cellsFrom (s.heap.objs.size + 1) scope.names []) qual func code none builtins → env = newEnv scope s.heap.objs.size globals (cellsFrom (s.heap.objs.size + 1) scope.names [] ++ [(cname, cc)]) qual func code none builtins →
      ∀ s', InCallC s own.locals (bindL own.kindOf binds fun _ => none) own.cells (bindC own.kindOf binds fun _ => none) s' → Q env s') :
    wpAny M A (newFunctionEnv scope globals [(cname, cc)] binds qual func code none builtins) Q E s := by
  simp only [newFunctionEnv, Option.isSome_none, Bool.false_eq_true, if_false]
  refine wpAny_bind (wpAny_alloc ?_)
  refine wpAny_bind (wpAny_layCells _ (fun y k cells => by cases hkc : k == NameKind.cell <;> simp [hkc]) _ _ _ _ ?_)
  have z := cellsFrom_ok scope.names (s.heap.push { cls := .type "frame", data := .dict #[] }) (s.heap.objs.size + 1) [] ⟨fun _ _ hm => (nomatch hm), List.Pairwise.nil⟩ (by rw [Heap.size_push]; exact Nat.le_refl _)
  rw [Heap.size_push] at z
  rw [show ({ s with heap := s.heap.push { cls := .type "frame", data := .dict #[] } } : Shared).heap.objs.size = s.heap.objs.size + 1 from Heap.size_push .., cells_acc scope.names (s.heap.objs.size + 1) [(cname, cc)]]
  refine wpAny_bind ?_
  have step : ∀ x ∈ binds, ∀ u : PUnit, (do storeName (newEnv scope s.heap.objs.size globals (cellsFrom (s.heap.objs.size + 1) scope.names [] ++ [(cname, cc)]) qual func code none builtins) x.1 x.2; pure (ForInStep.yield (PUnit.unit : PUnit)) : Sem (ForInStep PUnit)) =
      (do storeName (newEnv scope s.heap.objs.size globals (cellsFrom (s.heap.objs.size + 1) scope.names []) qual func code none builtins) x.1 x.2; pure (ForInStep.yield (PUnit.unit : PUnit))) := fun x hx u => by
    have e : (newEnv scope s.heap.objs.size globals (cellsFrom (s.heap.objs.size + 1) scope.names [] ++ [(cname, cc)]) qual func code none builtins).cells.lookup x.1 = (cellsFrom (s.heap.objs.size + 1) scope.names []).lookup x.1 := by
      show (cellsFrom (s.heap.objs.size + 1) scope.names [] ++ [(cname, cc)]).lookup x.1 = _
      rw [look_app]
      have : ([(cname, cc)] : List (Str × Addr)).lookup x.1 = none := by
        rw [List.lookup_cons]
        have : (x.1 == cname) = false := by simpa using hn x hx
        rw [this]; rfl
      rw [this]
      cases (cellsFrom (s.heap.objs.size + 1) scope.names []).lookup x.1 <;> rfl
    rw [store_same e]
    rfl
  show wpAny M A (forIn binds PUnit.unit fun x _ => (do storeName (newEnv scope s.heap.objs.size globals (cellsFrom (s.heap.objs.size + 1) scope.names [] ++ [(cname, cc)]) qual func code none builtins) x.1 x.2; pure (ForInStep.yield (PUnit.unit : PUnit)))) _ _ _
  rw [forIn_same step]
  refine wpAny_bindParams (s₀ := s) (env := newEnv scope s.heap.objs.size globals (cellsFrom (s.heap.objs.size + 1) scope.names []) qual func code none builtins) _ (fun _ _ _ => rfl) hk binds (fun _ => none) (fun _ => none) _ _
    ⟨⟨⟨_, _, rfl⟩, (Heap.Ns.new s.heap (.type "frame")).keeps (pushCells_keeps _ _), fun b o e => pushCells_keeps _ _ b o (Heap.get?_push_of_some _ e), Nat.le_refl _⟩, fun n c hc => (z.empty n c (mem_of_lookup hc)).1, z.apart, fun n c hm => (z.empty n c hm).2⟩ hkind fun s' x => wpAny_pure (hQ _ _ rfl rfl s' x)
end Lf
set_option maxHeartbeats 4000000
/-! Sup2: the context of a def with the class cell, the rule by the body. -/
namespace Lf
open PySem PySem.Spec L2
open PyProof.Rows hiding St wpAt
structure ScK (N P : List Str) (sc : Scope) : Prop where
  kind : sc.kind = .function
  co : sc.isCoroutine = false
  gen : sc.isGenerator = false
  nd : N.Nodup
  pre : N.take P.length = P
  par : ∀ x ∈ P, sc.names.lookup x = some .local ∨ sc.names.lookup x = some .cell
  free : ∀ y ∈ sc.names, y.2 = .free → y.1 = cname
  one : ∀ y ∈ sc.names, y.1 = cname → y.2 = .free
  cls : sc.names.lookup cname = some .free
  nin : ∀ x ∈ P, x ≠ cname
theorem mem_cells : ∀ {names : List (Str × NameKind)} {n : Nat} {acc : List (Str × Addr)} {x : Str} {c : Addr}, (x, c) ∈ cellsFrom n names acc → (x, c) ∈ acc ∨ (x, NameKind.cell) ∈ names
  | [], _, _, _, _, h => .inl h
  | (y, k) :: r, n, acc, x, c, h => by
    unfold cellsFrom at h
    split at h
    · rename_i hk
      rcases mem_cells h with h | h
      · rcases List.mem_cons.mp h with e | h
        · cases e
          have : k = .cell := by simpa using hk
          exact .inr (by rw [this]; exact List.mem_cons_self)
        · exact .inl h
      · exact .inr (List.mem_cons_of_mem _ h)
    · rcases mem_cells h with h | h
      · exact .inl h
      · exact .inr (List.mem_cons_of_mem _ h)
abbrev ownC (sc : Scope) (L : Addr) : List (Str × Addr) := cellsFrom (L + 1) sc.names []
abbrev allC (sc : Scope) (L cc : Addr) : List (Str × Addr) := ownC sc L ++ [(cname, cc)]
abbrev envK (qual : Str) (sc : Scope) (L f : Addr) (cd : Value) (cc : Addr) : Env := PySem.W.envX qual sc L f cd (allC sc L cc)
theorem look_own {sc : Scope} {L cc : Addr} {x : Str} (h : x ≠ cname) : (allC sc L cc).lookup x = (ownC sc L).lookup x := by
  show (ownC sc L ++ [(cname, cc)]).lookup x = _
  rw [look_app]
  have : ([(cname, cc)] : List (Str × Addr)).lookup x = none := by
    rw [List.lookup_cons]
    have : (x == cname) = false := by simpa using h
    rw [this]; rfl
  rw [this]
  cases (ownC sc L).lookup x <;> rfl
theorem look_cls {N P : List Str} {sc : Scope} {L cc : Addr} (S : ScK N P sc) : (allC sc L cc).lookup cname = some cc := by
  show (ownC sc L ++ [(cname, cc)]).lookup cname = _
  rw [look_app]
  have : (ownC sc L).lookup cname = none := by
    cases q : (ownC sc L).lookup cname with
    | none => rfl
    | some c =>
      rcases mem_cells (mem_of_lookup q) with h | h
      · cases h
      · exact absurd (S.one _ h rfl) (by decide)
  rw [this]; rfl
def cxK (P : Program) (w : World) (K : Fg) (mg : Str → Option Value) (base : Heap) (N : List Str) (qual : Str) (sc : Scope) (f : Addr) (cd : Value) (cc : Addr) (A : Around) (outer : List Env) (s : Shared) (H : Hp) : Cx where
  prog := P
  w := w
  K := K
  mg := mg
  base := base
  A := A.deeper (envK qual sc s.heap.objs.size f cd cc)
  N := N
  s_0 := s
  H_0 := H
  env := envK qual sc s.heap.objs.size f cd cc
  outer := outer
  stack := envK qual sc s.heap.objs.size f cd cc :: outer
  ex := []
  calm := true
  fn := fun x => x != cname
  pn := []
  xe := fun _ _ => False
section
variable {P : Program} {w : World} {K : Fg} {mg : Str → Option Value} {base : Heap} {A : Around} {outer : List Env} {s s1 : Shared} {H : Hp} {N ps : List Str} {qual : Str} {sc : Scope} {f cc : Addr} {cd : Value} {us : List Value} {vs : List V}
theorem start_get {N : List Str} {vs : List V} {i : Nat} {v : V} (h : (start N vs)[i]? = some (some v)) : vs[i]? = some v := by
  unfold L2.start at h
  by_cases hi : i < vs.length
  · rw [List.getElem?_append_left (by simpa using hi), List.getElem?_map] at h
    cases e : vs[i]? with
    | none => rw [e] at h; cases h
    | some a => rw [e] at h; cases h; rfl
  · rw [List.getElem?_append_right (by simpa using hi), List.getElem?_replicate] at h
    split at h <;> cases h
theorem inv_k (S : ScK N ps sc) (hh : A.handled = none) (e0 : Env0 P w K mg base A outer s H) (hl : vs.length = ps.length) (r : Vals vs us) {cv : Option Value} (hcc : base.get? cc = some (Obj.mk (.type "cell") none (.cell cv) #[]) ∨ ∃ o, base.get? cc = some o ∧ o.data = .cell cv)
    (x : InCallC s s.heap.objs.size (bindL (newEnv sc s.heap.objs.size mainGlobals (ownC sc s.heap.objs.size) (qual ++ ".<locals>.") (some f) cd none builtinsNs).kindOf (ps.zip us) fun _ => none) (ownC sc s.heap.objs.size) (bindC (newEnv sc s.heap.objs.size mainGlobals (ownC sc s.heap.objs.size) (qual ++ ".<locals>.") (some f) cd none builtinsNs).kindOf (ps.zip us) fun _ => none) s1) :
    Inv (cxK P w K mg base N qual sc f cd cc A outer s H) [] (start N vs) H s1 := by
  obtain ⟨oc, hoc, hod⟩ : ∃ o, base.get? cc = some o ∧ o.data = .cell cv := by
    rcases hcc with h | h
    · exact ⟨_, h, rfl⟩
    · exact h
  have hpl : ps.length ≤ N.length := by
    have z := congrArg List.length S.pre
    rw [List.length_take] at z
    omega
  obtain ⟨h1, tk, rfl, hk⟩ := x.done
  obtain ⟨hs0, hH0⟩ := e0.bs _ _ hoc
  have hcl : cc < s.heap.objs.size := Heap.lt_size hs0
  have lk : ∀ {y : Str} {c : Addr}, (allC sc s.heap.objs.size cc).lookup y = some c → (y = cname ∧ c = cc) ∨ (y ≠ cname ∧ (ownC sc s.heap.objs.size).lookup y = some c) := fun {y c} h => by
    by_cases e : y = cname
    · subst e
      rw [look_cls S] at h
      cases h
      exact .inl ⟨rfl, rfl⟩
    · rw [look_own e] at h
      exact .inr ⟨e, h⟩
  have ab : ∀ {y : Str} {c : Addr}, (ownC sc s.heap.objs.size).lookup y = some c → s.heap.objs.size < c := fun h => x.above _ _ (mem_of_lookup h)
  have no : ∀ b : Addr, b ∉ (cxK P w K mg base N qual sc f cd cc A outer s H).ex := fun b z => absurd (show b ∈ ([] : List Addr) from z) (by simp)
  refine ⟨⟨e0.mod, S.kind, rfl, rfl, Nat.le_refl _, fun y z c a1 a2 => ?_, fun y hy => ?_, fun y c fy h => ?_, fun _ => hh, Around.frames_deeper e0.frames, .inr ⟨rfl, rfl⟩, fun b z => absurd z (no b), e0.bs, e0.bsz, fun b _ _ => no b, fun b z => absurd z (no b), e0.funs, e0.frf⟩,
    rfl, e0.bare, Un.kept hk, ⟨_, x.toInCall.ns, fun i y v a1 a2 a3 => ?_⟩, fun y c h => ?_, e0.hok.fresh (Nat.le_refl _), fun y c h => ?_, fun p hp => absurd (show p ∈ ([] : List (Addr × Obj)) from hp) (by simp), e0.hok.kept hk, ?_⟩
  · rcases lk a1 with ⟨ey, e1⟩ | ⟨_, b1⟩ <;> rcases lk a2 with ⟨ez, e2⟩ | ⟨_, b2⟩
    · rw [ey, ez]
    · exact absurd (ab b2) (by rw [e1]; exact Nat.not_lt_of_lt hcl)
    · exact absurd (ab b1) (by rw [e2]; exact Nat.not_lt_of_lt hcl)
    · exact name_of_addr x.apart (mem_of_lookup b1) (mem_of_lookup b2)
  · have hy : sc.names.lookup y = some .cell ∨ sc.names.lookup y = some .free := hy
    rcases hy with hy | hy
    · obtain ⟨c, e⟩ := cell_has (n := s.heap.objs.size + 1) hy
      exact ⟨c, by
        show (allC sc s.heap.objs.size cc).lookup y = some c
        rw [look_own fun e2 => by rw [e2, S.cls] at hy; cases hy]
        exact e⟩
    · have ey := S.free _ (mem_of_lookup hy) rfl
      have ey : y = cname := ey
      subst ey
      exact ⟨cc, look_cls S⟩
  · rcases lk h with ⟨ey, _⟩ | ⟨_, b1⟩
    · subst ey
      exact absurd (show (cname != cname) = true from fy) (by simp)
    · exact Nat.le_of_lt (ab b1)
  · obtain ⟨u, hu, rv⟩ := r.get (start_get a2)
    have hi : i < vs.length := (List.getElem?_eq_some_iff.mp (start_get a2)).1
    have hp : ps[i]? = some y := by
      rw [← S.pre, List.getElem?_take_of_lt (by omega)]; exact a1
    have ndP : ps.Nodup := by rw [← S.pre]; exact S.nd.sublist (List.take_sublist _ _)
    have hm := List.mem_of_getElem? hp
    refine ⟨u, rv, ?_⟩
    rcases S.par y hm with k | k
    · exact .inl ⟨k, bindL_get ndP hp hu k⟩
    · obtain ⟨c, e⟩ := cell_has (n := s.heap.objs.size + 1) k
      refine .inr ⟨.inl k, c, ?_, ?_⟩
      · show (allC sc s.heap.objs.size cc).lookup y = some c
        rw [look_own (S.nin y hm)]
        exact e
      · have q := x.cell y c e
        rw [bindC_get ndP hp hu (by show sc.names.lookup y ≠ _; rw [k]; decide)] at q
        exact q
  · rcases lk h with ⟨_, e⟩ | ⟨_, b1⟩
    · exact ⟨cv, by rw [e]; exact ⟨oc, hk _ _ hs0, hod⟩⟩
    · exact ⟨_, x.cell y c b1⟩
  · rcases lk h with ⟨_, e⟩ | ⟨_, b1⟩
    · rw [e]; exact hH0
    · exact e0.hok.fresh (Nat.le_of_lt (ab b1))
  · unfold L2.start
    show _ = N.length
    rw [List.length_append, List.length_map, List.length_replicate]
    omega
/-- a body read where its def's own code stands on top -/
structure PB (X : Cx) (b0 body : List Stmt) (t : TS) : Prop where
  run : ∀ (pins : List (Addr × Obj)) (s : Shared) (σ : St) (H : Hp) (D : Ends), Inv X pins σ H s → t D σ H → _root_.PySem.wpAt (model X.prog X.w) X.A (.func b0 X.env) (execs body X.env) (SP X pins D) X.xe s
theorem pb_of {X : Cx} {b0 body : List Stmt} {t : TS} (h : PSs X body t) : PB X b0 body t := ⟨fun pins s σ H D I q => wpAt_of_wpAny (h.run pins s σ H D I q)⟩
/-- such a def is called: what its arguments bind is given -/
theorem run_k {k : Nat} {name : Str} {params : Arguments} {body : List Stmt} {dV kV doc pm cdv ct oc : Value} {an od : Option Addr} {osl : Array (Option Value)} {args : Args} {Q : VK} {E : XK} {G : List V → Hp → Prop} {cv : Option Value}
    (lk : K.lookup f = some ⟨oc, od, .func (PySem.W.fnX name qual params body sc [(cname, cc)] dV kV doc pm an cdv ct), osl⟩) (hcd : PySem.W.codeIn K cdv qual = true) (hcc : ∃ o, K.lookup cc = some o ∧ o.data = .cell cv)
    (S : ScK N ps sc) (hr : Room (k + 1) A) (e0 : Env0 P w K mg base A outer s H) (hb : StX.Bnd CX0 P w K mg base (PySem.W.fnX name qual params body sc [(cname, cc)] dV kV doc pm an cdv ct) args ps A outer s H E G)
    (hbody : ∀ (s2 : Shared) (H2 : Hp) (vs : List V), G vs H2 → Room k (A.deeper (envK qual sc s2.heap.objs.size f cdv cc)) →
      ∃ t, PB (cxK P w K mg base N qual sc f cdv cc A outer s2 H2) body body t ∧ t { nx := fun _ H' => Q .non H', rt := Q } (start N vs) H2) : codeAny (model P w) A (.call (.ref f) args) (CR CX0 outer P w H s Q E) s := by
  have KX : K.In s.heap := e0.mod.kin.keeps fun b o e => (e0.bs b o e).1
  refine codeAny_call_function hr.depth (KX _ _ lk) rfl S.co S.gen rfl (PySem.W.codeRec_of KX hcd) ?_
  refine hb _ _ _ fun s2 H2 vs us e2 un ho hx r hl g => ?_
  have lim : s2.heap.NoLimit := e0.mod.nolimit.keeps fun b o e => (e2.bs b o e).1
  have hkind : ∀ y ∈ ps.zip us, sc.names.lookup y.1 = some .local ∨ (sc.names.lookup y.1 = some .cell ∧ ((cellsFrom (s2.heap.objs.size + 1) sc.names []).lookup y.1).isSome = true) := fun y hy => by
    rcases S.par y.1 (List.of_mem_zip hy).1 with q | q
    · exact .inl q
    · exact .inr ⟨q, PySem.W.cellsFrom_some _ _ _ (.inl q)⟩
  refine new_env (s := s2) S.kind (fun y hy => S.nin y.1 (List.of_mem_zip hy).1) hkind fun env own ho2 he s1 x => ?_
  subst he ho2
  refine ⟨lim.keeps x.toInCall.keep, ks_codeAny_funcAt ?_⟩
  obtain ⟨t, ht, hq⟩ := hbody s2 H2 vs g (hr.deeper _)
  obtain ⟨o3, ho3, hd3⟩ := hcc
  have I : Inv (cxK P w K mg base N qual sc f cdv cc A outer s2 H2) [] (start N vs) H2 s1 := inv_k S hr.hd e2 hl r (.inr ⟨o3, e0.mod.kin _ _ ho3, hd3⟩) x
  refine ks_wpAt_mono (ht.run [] s1 _ _ _ I hq) (fun fl s' hs => ?_) fun e s' hs => False.elim hs
  have fin : ∀ {σ' : L2.St} {H' : Hp} {v' : V} {u' : Value}, Inv (cxK P w K mg base N qual sc f cdv cc A outer s2 H2) [] σ' H' s' → RelV v' u' → Q v' H' → CE outer P w H s Q u' s' :=
    fun {σ' H' v' u'} J rv' q => ⟨v', H', J.os.trans ho, J.bare, un.trans J.base, J.hok, rv', q⟩
  cases fl with
  | ret u' =>
    obtain ⟨v', σ', H', J, rv', q⟩ := hs
    exact fin J rv' q
  | next =>
    obtain ⟨σ', H', J, q⟩ := hs
    exact fin (v' := V.non) (u' := Value.none) J rfl q
  | brk =>
    obtain ⟨_, _, _, q⟩ := hs
    exact False.elim q
  | cont =>
    obtain ⟨_, _, _, q⟩ := hs
    exact False.elim q
end
end Lf
set_option maxHeartbeats 4000000
/-! Sup3: super().m looked up within a def's own body. -/
namespace Lf
open PySem PySem.Spec L2
open PyProof.Rows hiding St wpAt
/-- what a def with the class cell must have: its own object, its code, its cell -/
structure SupD (K : Fg) (P : Program) (f : Addr) (cd : Value) (cc D : Addr) : Prop where
  own : ∃ o fd ar, K.lookup f = some o ∧ o.data = .func fd ∧ (fd.params.posonlyargs ++ fd.params.args).head? = some ar ∧ ar.arg = ("self" : Str)
  code : ∃ cda o vs file tf, cd = .ref cda ∧ K.lookup cda = some o ∧ o.data = .fields vs ∧ vs[2]? = some (.str file tf) ∧ ((P.main.file : Str) == file) = true
  cell : ∃ o, K.lookup cc = some o ∧ o.data = .cell (some (.ref D))
  cls : ∃ o cdD, K.lookup D = some o ∧ o.data = .cls cdD
/-- super() of D at an instance of C -/
structure SupC (K : Fg) (C D : Addr) (m : Str) (g : Addr) : Prop where
  sub : PySem.W.mroIn K C (.ref D) = some true
  at_ : PySem.W.ks_superIn K C D m = some (some (.ref g))
  fn : PySem.W.typeIn K (.ref g) = some (.type "function")
  op : PySem.W.nsIn K cStatics "thirdparty.any" = some none
section
variable {X : Cx} {pins : List (Addr × Obj)} {σ : L2.St} {H : Hp} {s : Shared} {x C D f cc g dx : Addr} {fs : List (Str × V)}
theorem ins_obj (I : Inv X pins σ H s) (hx : H x = some (.ins C dx fs)) : ∃ ox, s.heap.get? x = some ox ∧ ox.cls = .ref C ∧ (∀ c, ox.data ≠ .cls c) ∧ PySem.W.notCls ox = true := by
  obtain ⟨mA, O, _⟩ := ins_get I.hok hx
  obtain ⟨od, J, _⟩ := O.look
  refine ⟨_, J.at_, J.cls, fun c e => ?_, J.no⟩
  have := J.no
  unfold PySem.W.notCls at this
  rw [e] at this
  exact Bool.noConfusion this
theorem ld_name {E : Value → Shared → Prop} {i : Nat} {y : Str} {v : V} {Q : Value → Shared → Prop} (I : Inv X pins σ H s) (hN : X.N[i]? = some y) (hs : σ[i]? = some (some v)) (hv : X.env.scope.names.lookup y = some .local ∨ X.env.scope.names.lookup y = some .cell) (k : ∀ u, RelV v u → Q u s) : wpAny (model X.prog X.w) X.A (loadName X.env y) Q E s := by
  obtain ⟨m, hn, hl⟩ := I.loc
  obtain ⟨u, r, l⟩ := hl i y v hN hs (hv.elim .inl fun z => .inr (.inl z))
  rcases l with ⟨hk, hm⟩ | ⟨hk, c, hc, hcell⟩
  · exact wpAny_loadName_local I.ok.kind hk hn hm (k u r)
  · rcases hk with hk | hk
    · exact wpAny_loadName_cell I.ok.kind hk hc hcell (k u r)
    · rcases hv with h | h <;> exact absurd (hk.symm.trans h) (by decide)
/-- super(), the object -/
theorem sup_node {b0 : List Stmt} {p0 p1 : Pos} {attr : Str} {whole : Sem Value} (I : Inv X pins σ H s) (SD : SupD X.K X.prog f X.env.code cc D) (hfu : X.env.func = some f) (hcl : X.env.cells.lookup cname = some cc)
    (hs0 : X.env.scope.names.lookup ("super" : Str) = some .globalImplicit) (hc0 : X.env.scope.names.lookup cname = some .free) (hm : X.mg "super" = none) (hN : X.N[0]? = some ("self" : Str)) (hv : X.env.scope.names.lookup ("self" : Str) = some .local ∨ X.env.scope.names.lookup ("self" : Str) = some .cell)
    (hs : σ[0]? = some (some (.ref x))) (hx : H x = some (.ins C dx fs)) (hsub : PySem.W.mroIn X.K C (.ref D) = some true) (hat : (attr == ("__class__" : Str)) = false) (htop : (X.prog.main.scope.names.lookup ("super" : Str)).isSome = false)
    {Q : Value → Shared → Prop} (k : ∀ so s', Inv X pins σ H s' → s'.heap.get? so = some (PySem.W.ks_superObj D x C) → Q (.ref so) s') :
    _root_.PySem.wpAt (model X.prog X.w) X.A (.func b0 X.env) (attributeBase (.Call (.Name "super" p0) [] [] p1) attr X.env whole) Q X.xe s := by
  obtain ⟨of, fd, ar, h1, h2, h3, h4⟩ := SD.own
  obtain ⟨cda, oc, vs, file, tf, e1, e2, e3, e4, e5⟩ := SD.code
  obtain ⟨ol, c1, c2⟩ := SD.cell
  obtain ⟨oD, cdD, d1, d2⟩ := SD.cls
  have KI := I.kIn
  obtain ⟨ox, o1, o2, o3, o4⟩ := ins_obj I hx
  refine ks_wpAt_super_base hs0 hc0 hat hfu (KI _ _ h1) h2 h3 e1 (KI _ _ e2) e3 e4 e5 htop ?_
  have ldg : ∀ {Q' : Value → Shared → Prop}, Q' (.type "super") s → wpAny (model X.prog X.w) X.A (loadName X.env "super") Q' X.xe s := fun {Q'} q => by
    obtain ⟨mb, b1, b2⟩ := I.mod.blt
    exact PySem.W.ks_loadName_global I.ok.kind hs0 (Calls.loadGlobal_builtin (by rw [I.ok.glob]; exact I.mod.glob.keeps I.bk) hm (by rw [I.ok.blt]; exact b1.keeps I.bk) ((b2 "super" (by decide)).trans (by decide +kernel)) q)
  refine ldg ⟨rfl, ?_⟩
  refine wpAny_loadName_free I.ok.kind hc0 hcl ⟨ol, KI _ _ c1, c2⟩ ?_
  rw [h4]
  refine ld_name I hN hs hv fun u ru => ?_
  cases ru
  refine ks_wpAny_isType_cls (KI _ _ d1) d2 ⟨rfl, ?_⟩
  refine ks_wpAny_call_super (KI _ _ d1) d2 o1 o2 o3 (PySem.W.looks_mroIn KI hsub) fun h' eq kp => ?_
  exact k _ _ (I.kept (t' := s.toks) kp) eq
/-- its method m, bound -/
theorem sup_meth {A : Around} {E : Value → Shared → Prop} {so : Addr} {m : Str} {pl : Sem Bool} (I : Inv X pins σ H s) (SC : SupC X.K C D m g) (hso : s.heap.get? so = some (PySem.W.ks_superObj D x C)) (hx : H x = some (.ins C dx fs)) (hat : (m == ("__class__" : Str)) = false)
    {Q : Value × List Value → Shared → Prop} (k : ∀ q s', H q = none → Inv X pins σ (upd H q (.met g x)) s' → Q (.ref q, []) s') :
    wpAny (model X.prog X.w) A (getMethod (.ref so) m pl) Q E s := by
  have KI := I.kIn
  obtain ⟨ox, o1, o2, o3, o4⟩ := ins_obj I hx
  have hm := SC.at_
  cases hc : PySem.W.clsIn X.K C with
  | none => unfold PySem.W.ks_superIn at hm; rw [hc] at hm; cases hm
  | some cd =>
    unfold PySem.W.ks_superIn at hm
    rw [hc] at hm
    obtain ⟨og, hog, hogc⟩ : ∃ og, s.heap.get? g = some og ∧ og.cls = .type "function" := by
      have z : (X.K.lookup g).map (·.cls) = some (.type "function") := SC.fn
      cases q : X.K.lookup g with
      | none => rw [q] at z; cases z
      | some og => rw [q] at z; exact ⟨og, KI _ _ q, Option.some.inj z⟩
    have ne : x ≠ C := by
      rintro rfl
      unfold PySem.W.clsIn at hc
      split at hc
      · rename_i c d cd' sl ho
        have e := KI _ _ ho
        rw [o1] at e
        cases e
        exact Bool.noConfusion o4
      · cases hc
    obtain ⟨hp, gn, dr, tk, os⟩ := s
    refine ks_wpAny_getMethod_super hso (PySem.W.looks_opaque KI SC.op) (l₀ := cd.mro) (fun A Q E s k q => wpAny_bind ((PySem.W.looks_clsIn KI hc) A _ E s k (wpAny_pure q))) rfl KI hm hog hogc ne hat ?_
    exact k _ _ (I.hok.fresh (Nat.le_refl _)) (I.laid (t' := tk + 1) (a := hp.objs.size) (o := .met g x) (fun b o e => Heap.get?_push_of_some _ e) (Nat.le_refl _) (show _ from Heap.get?_push_at rfl rfl))
end
end Lf
set_option maxHeartbeats 4000000
/-! Mrg1: one dict merged into another, as ** does. -/
namespace Lf
open PySem PySem.Spec L2
open PyProof.Rows hiding St wpAt
section
variable {prog : Program} {w : World} {KK : Type} [DecidableEq KK] {knd : KeyKind prog w KK} {A : Around} {E : Value → Shared → Prop} {s : Shared}
theorem idx_of {es : Array DictEntry} {kvs : List (KK × Value)} (hp : Pairs knd es.toList kvs) (k : KK) : (es.findIdx? fun e => knd.is k e.key) = kvs.findIdx? fun kv => decide (kv.1 = k) := by
  rw [← hp.findIdx k]
  obtain ⟨l⟩ := es
  simp
theorem forIn_none {α β : Type} {f : α → β → Sem (ForInStep β)} : ∀ {l : List α} {b : β}, (∀ x ∈ l, ∀ u, f x u = pure (.yield u)) → forIn l b f = pure b
  | [], _, _ => rfl
  | x :: l, b, h => by
    rw [List.forIn_cons, h x List.mem_cons_self, pure_bind]
    exact forIn_none fun y hy => h y (List.mem_cons_of_mem _ hy)
/-- an entry put, its hash known -/
theorem put_pairs {d : Addr} {kvs : List (KK × Value)} {k : KK} {key v : Value} {Q : Unit → Shared → Prop} (hkey : knd.is k key = true) (hm : s.heap.DictOf knd d kvs) (hsz : kvs.length ≤ sizeLine)
    (q : ∀ h', h'.DictOf knd d (stored kvs k v) → Heap.SameBut d s.heap h' → Q () { s with heap := h' }) : wpAny (model prog w) A (dictPut d (knd.hash k) key v) Q E s := by
  obtain ⟨ob, es, ep, g1, g2, g3, g4, g5, g6⟩ := hm
  have hl : es.size ≤ sizeLine := by
    have z := g5.length
    rw [Array.length_toList] at z
    omega
  unfold dictPut
  refine wpAny_bind (wpAny_dictFind_of hkey g1 g3 g4 ?_)
  have ix := idx_of g5 k
  cases hi : es.findIdx? fun e => knd.is k e.key with
  | some i =>
    have some_any : (kvs.any fun kv => decide (kv.1 = k)) = true := any_of_findIdx_some (ix ▸ hi)
    refine wpAny_updateDict g1 g3 (q _ ⟨_, _, ep, Heap.get?_update_self _ g1 (Obj.isFreed_of_dict (Obj.data_mapDict g3 _)), g2.mapDict _, Obj.data_mapDict g3 _, g4.modify _ _, ?_, ?_⟩ (Heap.SameBut.update ..))
    · unfold stored
      rw [if_pos some_any]
      have li : (es.toList.findIdx? fun e => knd.is k e.key) = some i := by
        rw [← hi]
        obtain ⟨l⟩ := es
        simp
      have z := g5.modify g6 li v
      obtain ⟨l⟩ := es
      simpa using z
    · unfold stored
      rw [if_pos some_any, keys_map_store]
      exact g6
  | none =>
    have out : k ∉ kvs.map (·.1) := not_mem_of_findIdx_none (ix ▸ hi)
    have no_any : ¬ (kvs.any fun kv => decide (kv.1 = k)) = true := fun z => by
      obtain ⟨kv, m1, m2⟩ := List.any_eq_true.mp z
      exact out (List.mem_map.mpr ⟨kv, m1, of_decide_eq_true m2⟩)
    refine wpAny_updateDictKeys (hz := hl) g1 g3 (q _ ⟨_, _, ep + 1, Heap.get?_update_self _ g1 (Obj.isFreed_of_dict (Obj.data_mapDictKeys g3 _)), g2.mapDictKeys _, Obj.data_mapDictKeys g3 _, g4.push hkey _, ?_, ?_⟩ (Heap.SameBut.update ..))
    · unfold stored
      rw [if_neg no_any]
      have z := g5.append hkey (knd.hash k) v
      obtain ⟨l⟩ := es
      simpa using z
    · unfold stored
      rw [if_neg no_any, List.map_append, List.nodup_append]
      refine ⟨g6, by simp, fun a ha b hb e => ?_⟩
      have hb : b = k := by simpa using hb
      exact out (by rw [← hb, ← e]; exact ha)
/-- no key of a known kind is a reference -/
theorem merge_map {d o : Addr} {kvs more : List (KK × Value)} {uq : Bool} {Q : Unit → Shared → Prop} (hdo : d ≠ o) (hoS : (o == sysModules) = false) (noref : ∀ (k : KK) (a : Addr), knd.is k (.ref a) = false) (hd : s.heap.DictOf knd d kvs) (ho : s.heap.DictOf knd o more) (hu : uq = true → kvs = [])
    (hsz : kvs.length + more.length ≤ sizeLine) (q : ∀ h', h'.DictOf knd d (merged kvs more) → Heap.SameBut d s.heap h' → Q () { s with heap := h' }) : wpAny (model prog w) A (mergeMapping d (.ref o) uq) Q E s := by
  obtain ⟨od, esd, epd, a1, a2, a3, a4, a5, a6⟩ := id hd
  obtain ⟨oo, eso, epo, b1, b2, b3, b4, b5, b6⟩ := id ho
  have hlen : more.length = eso.size := by rw [← b5.length, Array.length_toList]
  have nr : ∀ e ∈ eso, ∀ a, e.key ≠ .ref a := fun e he a z => by
    obtain ⟨k, k1, _⟩ := b4 e he
    rw [z, noref] at k1
    cases k1
  have loop : wpAny (model prog w) A (do
      let sz ← dictEntries o
      let ep0 ← dictEpoch o
      forIn (List.range sz.size) PUnit.unit fun i (_ : PUnit) => (do
        let now ← dictEntries o
        match now[i]? with
          | some e => do
            holding [e.key, e.val] (if uq = true then do
                let f ← dictFind d e.key e.hash
                if f.isSome = true then do
                    rule "dict.merge.duplicate-key"
                    let x ← newExc (.type "KeyError") [e.key]
                    let _ ← (raiseNew x : Sem Unit)
                    dictPut d e.hash e.key e.val
                  else dictPut d e.hash e.key e.val
              else dictPut d e.hash e.key e.val)
            let ep1 ← dictEpoch o
            if (ep1 != ep0) = true then do
                (unsupported "dict.changed-during-merge" : Sem Unit)
                pure (ForInStep.yield PUnit.unit)
              else pure (ForInStep.yield PUnit.unit)
          | _ => do
            (unsupported "dict.changed-during-merge" : Sem Unit)
            pure (ForInStep.yield PUnit.unit) : Sem (ForInStep PUnit))
      pure ()) Q E s := by
    refine wpAny_bind (wpAny_dictEntries b1 b3 (wpAny_bind (wpAny_dictEpoch b1 b3 (wpAny_bind ?_))))
    refine wpAny_forIn_list _ (fun rest _ s' => ∃ h' i, s' = { s with heap := h' } ∧ rest = List.range' i (eso.size - i) ∧ i ≤ eso.size ∧ h'.DictOf knd d (merged kvs (more.take i)) ∧ h'.get? o = some oo ∧ Heap.SameBut d s.heap h') _ ?_ ?_ _ _
      ⟨s.heap, 0, rfl, by rw [List.range_eq_range', Nat.sub_zero], Nat.zero_le _, by simpa [merged] using hd, b1, Heap.SameBut.refl _ _⟩
    · rintro x rest b s' ⟨h', i, rfl, hr, hi, t1, t2, t3⟩
      have lt : i < eso.size := by
        rcases Nat.lt_or_ge i eso.size with z | z
        · exact z
        · rw [Nat.sub_eq_zero_of_le z] at hr
          cases hr
      have nx : x = i ∧ rest = List.range' (i + 1) (eso.size - (i + 1)) := by
        rw [show eso.size - i = (eso.size - (i + 1)) + 1 by omega, List.range'_succ] at hr
        injection hr with r1 r2
        exact ⟨r1, r2⟩
      obtain ⟨ex, nx⟩ := nx
      subst ex
      refine wpAny_bind (wpAny_dictEntries t2 b3 ?_)
      rw [Array.getElem?_eq_getElem lt]
      have lm : x < more.length := by rw [hlen]; exact lt
      have at_ : more[x]? = some more[x] := List.getElem?_eq_getElem lm
      obtain ⟨ky, vl⟩ := b5.get? (e := eso[x]) (by simp [lt]) at_
      obtain ⟨k', ky', hh⟩ := b4 eso[x] (Array.getElem_mem lt)
      have ek : k' = more[x].1 := knd.inj _ _ _ ky' ky
      have szm : (merged kvs (more.take x)).length ≤ sizeLine := by
        have z1 := merged_length_le kvs (more.take x)
        rw [List.length_take] at z1
        omega
      have put : ∀ {Q' : Unit → Shared → Prop}, (∀ h2, h2.DictOf knd d (merged kvs (more.take (x + 1))) → h2.get? o = some oo → Heap.SameBut d s.heap h2 → Q' () { s with heap := h2 }) →
          wpAny (model prog w) A (dictPut d eso[x].hash eso[x].key eso[x].val) Q' E { s with heap := h' } := fun {Q'} z => by
        rw [hh, ek, vl]
        refine put_pairs ky t1 szm fun h2 y1 y2 => z h2 (by rw [merged_take_succ kvs more x more[x] at_]; exact y1) ((y2.2 o (Ne.symm hdo)).trans t2) (t3.trans y2)
      show wpAny (model prog w) A (holding [eso[x].key, eso[x].val] (if uq = true then _ else dictPut d eso[x].hash eso[x].key eso[x].val) >>= _) _ _ _
      have tail : ∀ {Qx : ForInStep PUnit → Shared → Prop} (h2 : Heap), h2.get? o = some oo → Qx (.yield PUnit.unit) { s with heap := h2 } → wpAny (model prog w) A (dictEpoch o >>= fun ep1 => if (ep1 != epo) = true then (do (unsupported "dict.changed-during-merge" : Sem Unit); pure (ForInStep.yield PUnit.unit)) else pure (ForInStep.yield PUnit.unit)) Qx E { s with heap := h2 } := fun {Qx} h2 y2 z => by
        refine wpAny_bind (wpAny_dictEpoch y2 b3 ?_)
        rw [if_neg (by simp)]
        exact wpAny_pure z
      refine wpAny_bind (wpAny_holding ?_)
      cases uq with
      | false => exact put fun h2 y1 y2 y3 => tail h2 y2 ⟨h2, x + 1, rfl, nx, lt, y1, y2, y3⟩
      | true =>
        have e0 := hu rfl
        subst e0
        rw [if_pos rfl]
        have nod : merged [] (more.take x) = more.take x := merged_nil_of_nodup _ (by
          rw [List.map_take]
          exact b6.sublist (List.take_sublist _ _))
        have fresh : more[x].1 ∉ (more.take x).map (·.1) := fun z => by
          have z2 : ((more.take x ++ more.drop x).map (·.1)).Nodup := by rw [List.take_append_drop]; exact b6
          rw [List.map_append, List.nodup_append] at z2
          refine z2.2.2 _ z _ ?_ rfl
          rw [List.drop_eq_getElem_cons lm]
          exact List.mem_cons_self
        obtain ⟨o2, es2, ep2, g1, g2, g3, g4, g5, g6⟩ := id t1
        rw [nod] at g5
        have fnone : (es2.findIdx? fun e => knd.is more[x].1 e.key) = none := by
          rw [idx_of g5, List.findIdx?_eq_none_iff]
          intro kv hkv
          exact decide_eq_false fun e => fresh (List.mem_map.mpr ⟨kv, hkv, e⟩)
        have find : ∀ {Q' : Option Nat → Shared → Prop}, Q' none { s with heap := h' } → wpAny (model prog w) A (dictFind d eso[x].key eso[x].hash) Q' E { s with heap := h' } := fun {Q'} z => by
          rw [hh, ek]
          exact wpAny_dictFind_of ky g1 g3 g4 (by rw [fnone]; exact z)
        exact wpAny_bind (find (put fun h2 y1 y2 y3 => tail h2 y2 ⟨h2, x + 1, rfl, nx, lt, y1, y2, y3⟩))
    · rintro b s' ⟨h', i, rfl, hr, hi, t1, t2, t3⟩
      have ei : i = eso.size := by
        rcases Nat.lt_or_ge i eso.size with z | z
        · rw [show eso.size - i = (eso.size - (i + 1)) + 1 by omega, List.range'_succ] at hr
          cases hr
        · exact Nat.le_antisymm hi z
      rw [ei, ← hlen, List.take_length] at t1
      exact wpAny_pure (q h' t1 t3)
  unfold mergeMapping
  refine wpAny_bind (wpAny_isInstance ho.typeIs isSubtype_dict_dict ?_)
  rw [if_pos rfl]
  refine wpAny_bind (wpAny_specialOf ho.typeIs F.slot_dict_iter.lookup (wpAny_bind (wpAny_pure ?_)))
  show wpAny (model prog w) A (if (o == sysModules) = true then _ else _) Q E s
  rw [if_neg (by rw [hoS]; exact Bool.false_ne_true)]
  refine wpAny_bind (wpAny_dictEntries a1 a3 ?_)
  by_cases hemp : esd.isEmpty = true
  · show wpAny (model prog w) A (if esd.isEmpty = true then _ else _) Q E s
    rw [if_pos hemp]
    refine wpAny_bind (wpAny_dictEntries b1 b3 (wpAny_bind ?_))
    rw [← Array.forIn_toList, forIn_none (fun e he u => ?_)]
    · exact wpAny_pure loop
    · have he : e ∈ eso := by simpa using he
      cases q : e.key with
      | ref a => exact absurd q (nr e he a)
      | _ => rfl
  · show wpAny (model prog w) A (if esd.isEmpty = true then _ else _) Q E s
    rw [if_neg hemp]
    exact loop
end
end Lf
set_option maxHeartbeats 4000000
/-! Sup4: super().m(e, **kw): the callee, the keywords. -/
namespace Lf
open PySem PySem.Spec L2
open PyProof.Rows hiding St wpAt
section
variable {prog : Program} {w : World} {A : Around} {E : Value → Shared → Prop}
/-- the attribute m of a super object: a bound method -/
theorem at_super {hp : Heap} {gn : Array GenState} {dr : Drawn} {t : Nat} {ow : OsState} {so D x C g : Addr} {og : Obj} {lin tl : List Value} {K : Fg} {m : Str} {b : Bool} {Q : Value → Shared → Prop} (hso : hp.get? so = some (PySem.W.ks_superObj D x C)) (op : PySem.W.Looks (model prog w) hp (opaqueClassAbove (.ref C)) none)
    (hl : PySem.W.Looks (model prog w) hp (mroOf (.ref C)) lin) (ht : (lin.dropWhile (· != .ref D)).drop 1 = tl) (KI : K.In hp) (al : PySem.W.alongIn K m tl = some (some (.ref g))) (hg : hp.get? g = some og) (gc : og.cls = .type "function") (ne : x ≠ C) (nc : (m == ("__class__" : Str)) = false)
    (q : Q (.ref hp.objs.size) ⟨hp.push { cls := .type "method", data := .fields #[.ref g, .ref x] }, gn, dr, t + 1, ow⟩) : wpAny (model prog w) A (getAttr (.ref so) m b) Q E ⟨hp, gn, dr, t, ow⟩ := by
  have slot := PySem.F.ks_slot_super_ga
  have ty : ∀ t', (⟨hp, gn, dr, t', ow⟩ : Shared).TypeIs (.ref so) "super" := fun _ => ⟨_, hso, rfl⟩
  unfold getAttr getAttrBy
  refine wpAny_bind (wpAny_mkText (wpAny_holding (wpAny_bind (wpAny_typeOf (ty _) (wpAny_bind (wpAny_of_eq slot.lookup ?_))))))
  show wpAny _ _ (getAttrByItsOwn (.ref so) (.str m t) (.type "super") (.builtin "super.__getattribute__") true b) _ _ _
  unfold getAttrByItsOwn hookBefore callGetattribute boundAndCalled
  have nohook : (if onTheHeap (.type "super") then typeLookup (.type "super") "__getattr__" else pure none : Sem (Option Value)) = pure none := rfl
  refine wpAny_bind (wpAny_of_eq nohook (wpAny_bind (wpAny_attempt (wpAny_holding ?_))))
  have hb : ¬ (b && onTheHeap (.builtin "super.__getattribute__")) = true := by cases b <;> exact Bool.false_ne_true
  show wpAny _ _ (if (b && onTheHeap (.builtin "super.__getattribute__")) = true then _ else _) _ _ _
  rw [if_neg hb]
  refine wpAny_bind (wpAny_of_eq (slot.bind _) ?_)
  refine wpAny_mono (Q := fun v s' => v = .ref hp.objs.size ∧ s' = ⟨hp.push { cls := .type "method", data := .fields #[.ref g, .ref x] }, gn, dr, t + 1, ow⟩) (E := fun _ _ => False) (wpAny_call_entry slot (ty _) PySem.F.ks_entry_super_ga (PySem.ks_wpAny_super_ga hso op hl ht KI al hg gc ne nc ⟨_, rfl, rfl, rfl⟩) (PySem.F.ks_gaArgs_super _ _)) (fun v s' hv => ?_) fun _ _ z => z.elim
  obtain ⟨e1, e2⟩ := hv
  subst e1 e2
  exact wpAny_pure q
end
end Lf
set_option maxHeartbeats 4000000
/-! Sup5: the keywords of **kw. -/
namespace Lf
open PySem PySem.Spec L2
open PyProof.Rows hiding St wpAt
section
variable {prog : Program} {w : World} {A : Around} {E : Value → Shared → Prop} {s : Shared}
abbrev tks (vs : List (Str × Value)) : List (Key × Value) := vs.map fun p => (Sum.inr p.1, p.2)
theorem kw_entries {f : DictEntry → List (Str × Value) → Sem (ForInStep (List (Str × Value)))} (hf : ∀ e acc s t, e.key = .str s t → f e acc = pure (.yield (acc ++ [(s, e.val)]))) :
    ∀ {es : List DictEntry} {vs acc : List (Str × Value)}, Pairs (mixKind prog w) es (tks vs) → forIn es acc f = pure (acc ++ vs)
  | [], [], acc, _ => by rw [List.forIn_nil, List.append_nil]
  | e :: es, v :: vs, acc, .cons h1 h2 h3 => by
    have h1 : (mixKind prog w).is (Sum.inr v.1) e.key = true := h1
    rcases keyIs_shape (show keyIs (Sum.inr v.1) e.key = true from h1) with ⟨i, t, e1, e2⟩ | ⟨x, t, e1, e2⟩
    · cases e1
    · cases e1
      rw [List.forIn_cons, hf e acc _ t e2, pure_bind]
      have h2 : e.val = v.2 := h2
      show forIn es (acc ++ [(v.1, e.val)]) f = _
      rw [kw_entries hf h3, h2, List.append_assoc]
      rfl
theorem keywords_in {fv : Value} {d : Addr} {vs : List (Str × Value)} {Q : List (Str × Value) → Shared → Prop} (hm : s.heap.DictOf (mixKind prog w) d (tks vs)) (q : Q vs s) : wpAny (model prog w) A (keywordsIn fv d) Q E s := by
  obtain ⟨ob, es, ep, g1, g2, g3, g4, g5, g6⟩ := hm
  unfold keywordsIn
  refine wpAny_bind (wpAny_dictEntries g1 g3 ?_)
  rw [← Array.forIn_toList, kw_entries (prog := prog) (w := w) (fun e acc s t h => ?_) g5]
  · exact wpAny_bind (wpAny_pure (wpAny_pure q))
  · rw [h]
theorem noref_mix (k : Key) (a : Addr) : (mixKind prog w).is k (.ref a) = false := by
  cases q : (mixKind prog w).is k (.ref a) with
  | false => rfl
  | true =>
    rcases keyIs_shape (show keyIs k (.ref a) = true from q) with ⟨i, t, e1, e2⟩ | ⟨x, t, e1, e2⟩
    · cases e2
    · cases e2
/-- the one **kw: a dict laid, x read, merged -/
theorem merged_kw {fv : Value} {xx : Sem Value} {Q : Addr → Shared → Prop} (hxx : wpAny (model prog w) A xx (fun v s2 => ∃ a vs, v = .ref a ∧ s.heap.objs.size ≠ a ∧ (a == sysModules) = false ∧ s2.heap.DictOf (mixKind prog w) s.heap.objs.size [] ∧ s2.heap.DictOf (mixKind prog w) a (tks vs) ∧ vs.length ≤ sizeLine ∧
      ∀ h', h'.DictOf (mixKind prog w) s.heap.objs.size (tks vs) → Heap.SameBut s.heap.objs.size s2.heap h' → Q s.heap.objs.size { s2 with heap := h' }) E { s with heap := s.heap.push { cls := .type "dict", data := .dict #[] } }) :
    wpAny (model prog w) A (mergedKeywords fv [(none, xx)]) Q E s := by
  unfold mergedKeywords
  refine wpAny_bind (wpAny_alloc ?_)
  refine wpAny_bind (wpAny_holding ?_)
  dsimp only
  rw [List.forIn_cons]
  refine wpAny_bind (wpAny_bind (wpAny_bind (wpAny_pure (wpAny_bind (wpAny_mono hxx (fun v s2 hv => ?_) fun _ _ z => z)))))
  obtain ⟨a, vs, rfl, ne, nS, dd, da, hz, q⟩ := hv
  refine wpAny_bind (wpAny_onRaise (wpAny_holding (wpAny_tryCatch (wpAny_onRaise (merge_map ne nS noref_mix dd da (fun _ => rfl) (by rw [List.length_map]; simpa using hz) fun h' hd hs => ?_)))))
  refine wpAny_pure (wpAny_pure (wpAny_pure (wpAny_pure (q h' ?_ hs))))
  rw [merged_nil_of_nodup] at hd
  · exact hd
  · obtain ⟨_, _, _, _, _, _, _, _, nd⟩ := da
    exact nd
/-- one plain argument and **kw -/
theorem args_kw {fv : Value} {x1 xx : Sem Value} {Q : Args → Shared → Prop} (h : wpAny (model prog w) A (spliced [(false, x1)]) (fun us s1 => wpAny (model prog w) A xx (fun v s2 => ∃ a vs, v = .ref a ∧ s1.heap.objs.size ≠ a ∧ (a == sysModules) = false ∧ s2.heap.DictOf (mixKind prog w) s1.heap.objs.size [] ∧ s2.heap.DictOf (mixKind prog w) a (tks vs) ∧ vs.length ≤ sizeLine ∧
      ∀ h', Heap.SameBut s1.heap.objs.size s2.heap h' → Q ⟨us, vs⟩ { s2 with heap := h' }) E { s1 with heap := s1.heap.push { cls := .type "dict", data := .dict #[] } }) E s) : wpAny (model prog w) A (evalArgs fv true [(false, x1)] [(none, xx)]) Q E s := by
  unfold evalArgs
  refine wpAny_bind (wpAny_mono h (fun us s1 h1 => wpAny_holding ?_) fun _ _ z => z)
  refine wpAny_bind (merged_kw (wpAny_mono h1 (fun v s2 hv => ?_) fun _ _ z => z))
  obtain ⟨a, vs, ev, ne, nS, dd, da, hz, q⟩ := hv
  refine ⟨a, vs, ev, ne, nS, dd, da, hz, fun h' hd hs => ?_⟩
  refine wpAny_bind (wpAny_pure ?_)
  exact wpAny_bind (wpAny_holding (keywords_in hd (wpAny_pure (q h' hs))))
theorem callWith_kw {fv : Value} {first : List Value} {pos : Pos} {Q : Value → Shared → Prop} {args : List (Bool × Sem Value)} {kws : List (Option Str × Sem Value)} (hst : kws.any (·.1.isNone) = true)
    (h : wpAny (model prog w) A (evalArgs fv true args kws) (fun a s1 => (∃ k, (k = Keeper.frame ∨ k = Keeper.machine ∨ k = Keeper.boundFrame) ∧ PySem.W.Looks (model prog w) s1.heap (keeperOf fv) k) ∧ wpAny (model prog w) A (call fv (first ++ a.pos) a.kw) Q E s1) E s) : wpAny (model prog w) A (callWith pos fv first args kws) Q E s := by
  unfold callWith
  refine wpAny_bind (wpAny_holding (wpAny_mono h (fun a s1 h1 => wpAny_bind (wpAny_standAt ?_)) fun _ _ z => z))
  obtain ⟨⟨k, hk, lk⟩, hc⟩ := h1
  simp only [hst, Bool.or_true]
  have fin : ∀ {t : Sem Value}, wpAny (model prog w) A t Q E s1 → wpAny (model prog w) A (do let r ← t; holding [r] point; pure r) Q E s1 := fun z => wpAny_bind (wpAny_mono z (fun r s3 hr => wpAny_bind (wpAny_holding (wpAny_point (wpAny_pure hr)))) fun _ _ y => y)
  refine wpAny_bind (lk.here ?_)
  rcases hk with rfl | rfl | rfl
  · exact fin (by unfold callMarked; exact Calls.wpAny_keep hc)
  · exact fin (wpAny_operating hc)
  · exact fin (wpAny_operating hc)
end
end Lf
set_option maxHeartbeats 4000000
/-! Sup6: super().m(..) as an expression of a def's own body. -/
namespace Lf
open PySem PySem.Spec L2
open PyProof.Rows hiding St wpAt
/-- what a call with keywords promises: the positional values, then the keywords' -/
def FnKw (P : Program) (w : World) (K : Fg) (mg : Str → Option Value) (base : Heap) (k : Nat) (g : Addr) (ks : List Str) (sp : Sp) : Prop :=
  ∀ (A : Around) (outer : List Env) (s : Shared) (H : Hp) (us ws : List Value) (vs zs : List V) (Q : VK) (E : XK), Room k A → Env0 P w K mg base A outer s H → Vals vs us → Vals zs ws → zs.length = ks.length → sp (vs ++ zs) H Q E →
    codeAny (model P w) A (.call (.ref g) ⟨us, ks.zip ws⟩) (CR CX0 outer P w H s Q E) s
theorem FnKw.mono {P : Program} {w : World} {K : Fg} {mg : Str → Option Value} {base : Heap} {j k : Nat} {g : Addr} {ks : List Str} {sp : Sp} (F : FnKw P w K mg base j g ks sp) (h : j ≤ k) : FnKw P w K mg base k g ks sp := fun A outer s H us ws vs zs Q E hr => F A outer s H us ws vs zs Q E (hr.mono h)
theorem FnKw.imp {P : Program} {w : World} {K : Fg} {mg : Str → Option Value} {base : Heap} {k : Nat} {g : Addr} {ks : List Str} {sp sp' : Sp} (F : FnKw P w K mg base k g ks sp) (h : ∀ vs H Q E, sp' vs H Q E → sp vs H Q E) : FnKw P w K mg base k g ks sp' := fun A outer s H us ws vs zs Q E hr e0 r rz hl hs => F A outer s H us ws vs zs Q E hr e0 r rz hl (h _ _ _ _ hs)
theorem fna_kw {P : Program} {w : World} {K : Fg} {mg : Str → Option Value} {base : Heap} {k : Nat} {g : Addr} {sp : Sp} (c : Fna P w K mg base k g sp) : FnKw P w K mg base k g [] sp := fun A outer s H us ws vs zs Q E hr e0 r rz hl hs => by
  obtain ⟨fd, ps, F, kp, b⟩ := c.ex
  cases zs with
  | cons z zs => cases hl
  | nil =>
    rw [List.append_nil] at hs
    have KX : K.In s.heap := e0.mod.kin.keeps fun b o e => (e0.bs b o e).1
    have hl2 := F.len _ _ _ _ hs
    have bb := b (s := s) us KX (by rw [List.append_nil, ← r.length]; exact hl2)
    rw [List.append_nil] at bb
    exact F.run A outer s H ⟨us, []⟩ us vs Q E hr e0 bb r hs
section
variable {X : Cx} {b0 : List Stmt} {σ : L2.St} {H : Hp} {x C D f cc g dx : Addr} {fs : List (Str × V)} {D' : Ends} {rest : List Stmt} {pos p0 p1 apos cpos : Pos} {m : Str}
structure PEB (X : Cx) (b0 : List Stmt) (e : Expr) (t : TE) : Prop where
  run : ∀ (pins : List (Addr × Obj)) (s : Shared) (σ : L2.St) (H : Hp) (Q : VK), Inv X pins σ H s → t σ H Q → _root_.PySem.wpAt (model X.prog X.w) X.A (.func b0 X.env) (eval e X.env) (EP X pins σ Q) X.xe s
/-- what the context must be -/
structure SupX (X : Cx) (f cc D : Addr) : Prop where
  sd : SupD X.K X.prog f X.env.code cc D
  fu : X.env.func = some f
  cl : X.env.cells.lookup cname = some cc
  s0 : X.env.scope.names.lookup ("super" : Str) = some .globalImplicit
  c0 : X.env.scope.names.lookup cname = some .free
  mg : X.mg "super" = none
  n0 : X.N[0]? = some ("self" : Str)
  lo : X.env.scope.names.lookup ("self" : Str) = some .local ∨ X.env.scope.names.lookup ("self" : Str) = some .cell
  top : (X.prog.main.scope.names.lookup ("super" : Str)).isSome = false
theorem run_kw {pins : List (Addr × Obj)} {s : Shared} {us ws : List Value} {vs zs : List V} {ks : List Str} {k : Nat} {sp : Sp} {q : Addr} {Q : VK} (F : FnKw X.prog X.w X.K X.mg X.base k g ks sp) (hr : Room k X.A) (I : Inv X pins σ H s) (hq : H q = some (.met g x)) (r : Vals vs us) (rz : Vals zs ws) (hl : zs.length = ks.length)
    (h : sp (.ref x :: (vs ++ zs)) H Q E0) : wpAny (model X.prog X.w) X.A (call (.ref q) us (ks.zip ws)) (EP X pins σ Q) X.xe s := by
  refine wpAny_call (call_met I hq (codeAny_mono (F X.A X.stack s H (.ref x :: us) ws (.ref x :: vs) zs Q E0 hr I.env0 (.cons rfl r) rz hl h) fun r s' hq => ?_))
  cases r with
  | error e => exact pass0 _ _ _ _ _ _ I hq
  | ok fl =>
    cases fl with
    | ret u => exact I.after hq
    | next => exact False.elim hq
    | brk => exact False.elim hq
    | cont => exact False.elim hq
/-- super().m() -/
theorem eb_super0 {k : Nat} {sp : Sp} (SX : SupX X f cc D) (SC : SupC X.K C D m g) (hf : PySem.W.fnIn X.K g = true) (F : FnKw X.prog X.w X.K X.mg X.base k g [] sp) (hr : Room k X.A) (hat : (m == ("__class__" : Str)) = false := by decide) (hne : (apos.endLine == cpos.line) = true := by rfl) :
    PEB X b0 (.Call (.Attribute (.Call (.Name "super" p0) [] [] p1) m apos) [] [] cpos) (fun σ H Q => ∃ x dx fs, σ[0]? = some (some (.ref x)) ∧ H x = some (.ins C dx fs) ∧ ∀ q, H q = none → sp [.ref x] (upd H q (.met g x)) Q E0) := by
  refine ⟨fun pins s σ H Q I ⟨x, dx, fs, hs, hx, h⟩ => ?_⟩
  show _root_.PySem.wpAt _ _ _ (do
    let ov ← attributeBase (.Call (.Name "super" p0) [] [] p1) m X.env (eval (.Call (.Name "super" p0) [] [] p1) X.env)
    standAt apos.atName
    methodCall (.Call (.Name "super" p0) [] [] p1) m apos cpos X.env ov 0 (backTo cpos (starEach [] X.env)) (backToKw cpos (keywordEach [] X.env))) _ _ _
  refine _root_.PySem.wpAt_bind (sup_node I SX.sd SX.fu SX.cl SX.s0 SX.c0 SX.mg SX.n0 SX.lo hs hx SC.sub hat SX.top fun so s1 I1 hso => wpAt_of_wpAny (wpAny_bind (wpAny_standAt ?_)))
  unfold methodCall
  refine wpAny_bind (wpAny_holding (sup_meth I1 SC hso hx hat fun q s2 hq I2 => ?_))
  have hp : methodCallPos true (.Call (.Name "super" p0) [] [] p1) X.env apos cpos = pure cpos := by unfold methodCallPos; rw [hne]; rfl
  refine wpAny_bind (wpAny_of_eq hp ?_)
  refine callwith_met (g := g) (a := x) rfl hf (evalArgs_nil3 ⟨met_P I2 upd_same, ?_⟩)
  exact run_kw (us := []) (ws := []) (vs := []) (zs := []) (ks := []) F hr I2 upd_same .nil .nil rfl (h q hq)
/-- the attribute, as a call with ** takes it -/
theorem sup_attr {pins : List (Addr × Obj)} {s : Shared} {A : Around} {E : Value → Shared → Prop} {so : Addr} {b : Bool} (I : Inv X pins σ H s) (SC : SupC X.K C D m g) (hso : s.heap.get? so = some (PySem.W.ks_superObj D x C)) (hx : H x = some (.ins C dx fs)) (hat : (m == ("__class__" : Str)) = false)
    {Q : Value → Shared → Prop} (k : ∀ q s', H q = none → Inv X pins σ (upd H q (.met g x)) s' → Q (.ref q) s') : wpAny (model X.prog X.w) A (getAttr (.ref so) m b) Q E s := by
  have KI := I.kIn
  obtain ⟨ox, o1, o2, o3, o4⟩ := ins_obj I hx
  have hm := SC.at_
  cases hc : PySem.W.clsIn X.K C with
  | none => unfold PySem.W.ks_superIn at hm; rw [hc] at hm; cases hm
  | some cd =>
    unfold PySem.W.ks_superIn at hm
    rw [hc] at hm
    obtain ⟨og, hog, hogc⟩ : ∃ og, s.heap.get? g = some og ∧ og.cls = .type "function" := by
      have z : (X.K.lookup g).map (·.cls) = some (.type "function") := SC.fn
      cases q : X.K.lookup g with
      | none => rw [q] at z; cases z
      | some og => rw [q] at z; exact ⟨og, KI _ _ q, Option.some.inj z⟩
    have ne : x ≠ C := by
      rintro rfl
      unfold PySem.W.clsIn at hc
      split at hc
      · rename_i c d cd' sl ho
        have e := KI _ _ ho
        rw [o1] at e
        cases e
        exact Bool.noConfusion o4
      · cases hc
    obtain ⟨hp, gn, dr, tk, os⟩ := s
    refine at_super hso (PySem.W.looks_opaque KI SC.op) (lin := cd.mro) (fun A Q E s k q => wpAny_bind ((PySem.W.looks_clsIn KI hc) A _ E s k (wpAny_pure q))) rfl KI hm hog hogc ne hat ?_
    exact k _ _ (I.hok.fresh (Nat.le_refl _)) (I.laid (t' := tk + 1) (a := hp.objs.size) (o := .met g x) (fun b o e => Heap.get?_push_of_some _ e) (Nat.le_refl _) (show _ from Heap.get?_push_at rfl rfl))
/-- text keys -/
abbrev tkv (kv : List (Str × V)) : List (Key × V) := kv.map fun p => (Sum.inr p.1, p.2)
theorem kv_split : ∀ {kv : List (Str × V)} {vs : List (Key × Value)}, KV (tkv kv) vs → ∃ ws, vs = tks ((kv.map (·.1)).zip ws) ∧ Vals (kv.map (·.2)) ws
  | [], _, h => by cases h; exact ⟨[], rfl, .nil⟩
  | p :: kv, _, h => by
    cases h with
    | cons h1 h2 =>
      rename_i q qs
      obtain ⟨ws, e, r⟩ := kv_split h2
      obtain ⟨q1, q2⟩ := q
      obtain ⟨e1, r1⟩ := h1
      have e1 : Sum.inr p.1 = q1 := e1
      refine ⟨q2 :: ws, ?_, .cons r1 r⟩
      rw [e, ← e1]
      rfl
/-- super().m(e, **y), y a local that holds a dict with text keys -/
theorem eb_superK {k j : Nat} {sp : Sp} {kv : List (Str × V)} {e1 : Expr} {y : Str} {py kp : Pos} {φ : Pv} {o : Addr} (SX : SupX X f cc D) (SC : SupC X.K C D m g) (hf : PySem.W.fnIn X.K g = true) (F : FnKw X.prog X.w X.K X.mg X.base k g (kv.map (·.1)) sp) (hr : Room k X.A)
    (hs : σ[0]? = some (some (.ref x))) (hx : H x = some (.ins C dx fs)) (m1 : Mo Ex φ) (h1 : ∀ q, H q = none → PE X e1 (tG Ex σ (upd H q (.met g x)) φ)) (hy : σ[j]? = some (some (.ref o))) (hN : X.N[j]? = some y) (vis : X.env.scope.names.lookup y = some .local ∨ X.env.scope.names.lookup y = some .cell) (ho : H o = some (.dK (tkv kv)))
    (hd : (y == ("__debug__" : Str)) = false := by decide) (hcd : (y == ("__classdict__" : Str)) = false := by decide) (hat : (m == ("__class__" : Str)) = false := by decide) (he : starEach [e1] X.env = (false, eval e1 X.env) :: starEach [] X.env := by rfl) :
    PEB X b0 (.Call (.Attribute (.Call (.Name "super" p0) [] [] p1) m apos) [e1] [⟨none, .Name y py, kp⟩] cpos) (fun σ' H' Q => σ' = σ ∧ H' = H ∧ ∀ v1 H1, Ex H H1 → φ v1 H1 → sp ([.ref x, v1] ++ kv.map (·.2)) H1 Q E0) := by
  refine ⟨fun pins s σ' H' Q I ⟨e2, e3, h⟩ => ?_⟩
  subst e2 e3
  show _root_.PySem.wpAt _ _ _ (do
    let ov ← attributeBase (.Call (.Name "super" p0) [] [] p1) m X.env (eval (.Call (.Name "super" p0) [] [] p1) X.env)
    standAt apos.atName
    methodCall (.Call (.Name "super" p0) [] [] p1) m apos cpos X.env ov 2 (backTo cpos (starEach [e1] X.env)) (backToKw cpos (keywordEach [⟨none, .Name y py, kp⟩] X.env))) _ _ _
  refine _root_.PySem.wpAt_bind (sup_node I SX.sd SX.fu SX.cl SX.s0 SX.c0 SX.mg SX.n0 SX.lo hs hx SC.sub hat SX.top fun so s1 I1 hso => wpAt_of_wpAny (wpAny_bind (wpAny_standAt ?_)))
  have form : methodCallForm 2 (backTo cpos (starEach [e1] X.env)) (backToKw cpos (keywordEach [⟨none, .Name y py, kp⟩] X.env)) = false := by
    unfold methodCallForm
    simp [backToKw, keywordEach]
  unfold methodCall
  rw [form]
  refine wpAny_bind (wpAny_holding (wpAny_bind (sup_attr I1 SC hso hx hat fun q s2 hq I2 => wpAny_pure ?_)))
  refine wpAny_bind (wpAny_pure ?_)
  have eH : Ex H' (upd H' q (.met g x)) := Ex.new hq
  refine callWith_kw rfl ?_
  rw [he]
  refine args_kw ?_
  have z := ((da_cons rlEx m1 (h1 q hq) (da_nil rlEx) he : PA X [e1] (tA Ex σ' (upd H' q (.met g x)) [φ])).run cpos pins s2 σ' (upd H' q (.met g x)) (fun vs H3 => Ex (upd H' q (.met g x)) H3 ∧ ∃ v1, vs = [v1] ∧ φ v1 H3) I2 ⟨rfl, Ex.rfl' _, fun vs H3 e3 a => ⟨e3, all1 a⟩⟩)
  rw [he] at z
  refine wpAny_mono z (fun us s3 hv => ?_) fun _ _ z => z
  obtain ⟨vs, H3, I3, r3, e3, v1, ev, p1'⟩ := hv
  subst ev
  have e03 : Ex H' H3 := Ex.tr eH e3
  have ho3 := e03 _ _ ho
  have hq3 : H3 q = some (.met g x) := e3 _ _ upd_same
  have kp1 : ∀ b ob, s3.heap.get? b = some ob → (s3.heap.push { cls := .type "dict", data := .dict #[] }).get? b = some ob := fun b ob t => Heap.get?_push_of_some _ t
  have I3p : Inv X pins σ' H3 { s3 with heap := s3.heap.push { cls := .type "dict", data := .dict #[] } } := I3.kept (t' := s3.toks) kp1
  refine wpAny_bind (wpAny_Name (ld_name I3p hN hy vis fun u ru => ?_) hd)
  cases ru
  refine wpAny_bind (wpAny_standAt (wpAny_pure ?_))
  obtain ⟨z1, z2, vs, rel, dd⟩ := dk_of I3p.hok ho3
  obtain ⟨ws, ew, rw'⟩ := kv_split rel
  have ne : s3.heap.objs.size ≠ o := fun t => by
    have t2 := I3.hok.fresh (Nat.le_refl s3.heap.objs.size)
    rw [t, ho3] at t2
    cases t2
  refine ⟨o, (kv.map (·.1)).zip ws, rfl, ne, z2, Heap.DictOf.new _, by rw [← ew]; exact dd, ?_, fun h' sb => ?_⟩
  · rw [List.length_zip, List.length_map]
    rw [List.length_map] at z1
    exact Nat.le_trans (Nat.min_le_left _ _) z1
  · have I4 : Inv X pins σ' H3 { s3 with heap := h' } := I3.kept (t' := s3.toks) fun b ob t => (sb.2 b (Nat.ne_of_lt (Heap.lt_size t))).trans (kp1 b ob t)
    exact ⟨PySem.W.keeps_M hf _ (met_P I4 hq3), run_kw F hr I4 hq3 r3 rw' (by rw [List.length_map, List.length_map]) (h v1 H3 e03 p1')⟩
end
end Lf
set_option maxHeartbeats 4000000
/-! Sup7: {**a, k: v}. -/
namespace Lf
open PySem PySem.Spec L2
open PyProof.Rows hiding St wpAt wpAt_bind wpAt_mono
theorem any_of_at {α : Type} {M : Model} {A : Around} {t : Sem α} {Q : α → Shared → Prop} {E : Value → Shared → Prop} {s : Shared} (h : ∀ c, _root_.PySem.wpAt M A c t Q E s) : wpAny M A t Q E s := fun Γ p hΓ => h Γ.code Γ p rfl hΓ
section
variable {prog : Program} {w : World} {A : Around} {E : Value → Shared → Prop} {s : Shared} {c : Code}
theorem disp_two {xx kx vx : Sem Value} {Q : Value → Shared → Prop}
    (h : _root_.PySem.wpAt (model prog w) A c xx (fun v s2 => ∃ a more, v = .ref a ∧ s.heap.objs.size ≠ a ∧ (a == sysModules) = false ∧ s2.heap.DictOf (mixKind prog w) s.heap.objs.size [] ∧ s2.heap.DictOf (mixKind prog w) a more ∧ more.length < sizeLine ∧
      ∀ h', h'.DictOf (mixKind prog w) s.heap.objs.size more → Heap.SameBut s.heap.objs.size s2.heap h' →
        wpAny (model prog w) A (subDict [(kx, vx)]) (fun z s3 => ∃ k u more2, s.heap.objs.size ≠ z ∧ (z == sysModules) = false ∧ s3.heap.DictOf (mixKind prog w) z [(k, u)] ∧ s3.heap.DictOf (mixKind prog w) s.heap.objs.size more2 ∧ more2.length < sizeLine ∧
          ∀ h'', h''.DictOf (mixKind prog w) s.heap.objs.size (stored more2 k u) → Heap.SameBut s.heap.objs.size s3.heap h'' → Q (.ref s.heap.objs.size) { s3 with heap := h'' }) E { s2 with heap := h' }) E { s with heap := s.heap.push { cls := .type "dict", data := .dict #[] } }) :
    _root_.PySem.wpAt (model prog w) A c (dictDisplay [(none, xx), (some kx, vx)]) Q E s := by
  unfold dictDisplay
  dsimp only
  rw [List.forIn_cons]
  refine wpAt_bind (wpAt_bind (wpAt_bind (wpAt_of_wpAny (wpAny_pure (wpAt_bind (wpAt_of_wpAny (wpAny_alloc ?_)))))))
  refine wpAt_bind (ks_wpAt_holding (wpAt_mono h (fun v s2 hv => ?_) fun _ _ z => z))
  obtain ⟨a, more, rfl, ne, nS, d0, da, hz, q⟩ := hv
  have nd : (more.map (·.1)).Nodup := by
    obtain ⟨_, _, _, _, _, _, _, _, z⟩ := id da
    exact z
  refine wpAt_bind (wpAt_of_wpAny (wpAny_onRaise (wpAny_tryCatch (wpAny_onRaise (wpAny_holding (merge_map ne nS noref_mix d0 da (fun z => by cases z) (by simpa using Nat.le_of_lt hz) fun h' m1 sb => ?_))))))
  rw [merged_nil_of_nodup more nd] at m1
  refine wpAt_of_wpAny (wpAny_pure ?_)
  show _root_.PySem.wpAt _ _ _ (forIn [(some kx, vx)] (some s.heap.objs.size, ([] : List (Sem Value × Sem Value))) _) _ _ _
  rw [List.forIn_cons]
  refine wpAt_of_wpAny (wpAny_bind ?_)
  refine wpAny_pure ?_
  show wpAny _ _ (forIn [] (some s.heap.objs.size, [(kx, vx)]) _) _ _ _
  rw [List.forIn_nil]
  refine wpAny_pure (wpAt_of_wpAny (wpAny_bind (wpAny_bind (wpAny_holding (wpAny_mono (q h' m1 sb) (fun z s3 hz3 => ?_) fun _ _ z => z)))))
  obtain ⟨k, u, more2, ne2, nS2, dz, dm, hz2, qq⟩ := hz3
  refine wpAny_bind (wpAny_onRaise (wpAny_holding (merge_map ne2 nS2 noref_mix dm dz (fun z => by cases z) (by rw [List.length_singleton]; omega) fun h'' m2 sb2 => ?_)))
  refine wpAny_pure (wpAny_pure (qq h'' ?_ sb2))
  exact m2
end
section
variable {X : Cx} {c : Code} {b0 : List Stmt} {σ : L2.St} {H : Hp} {R : Rel} {D : Ends} {rest : List Stmt} {e1 ek ev : Expr} {t1 tk tv : TE} {pos : Pos}
/-- an expression read where c stands on top -/
structure PEC (X : Cx) (c : Code) (e : Expr) (t : TE) : Prop where
  run : ∀ (pins : List (Addr × Obj)) (s : Shared) (σ : L2.St) (H : Hp) (Q : VK), Inv X pins σ H s → t σ H Q → _root_.PySem.wpAt (model X.prog X.w) X.A c (eval e X.env) (EP X pins σ Q) X.xe s
theorem pec_of {e : Expr} {t : TE} (h : PE X e t) : PEC X c e t := ⟨fun pins s σ H Q I q => wpAt_of_wpAny (h.run pins s σ H Q I q)⟩
theorem pe_of_c {e : Expr} {t : TE} (h : ∀ c, PEC X c e t) : PE X e t := ⟨fun pins s σ H Q I q => any_of_at fun c => (h c).run pins s σ H Q I q⟩
theorem pec_b {e : Expr} {t : TE} (h : PEB X b0 e t) : PEC X (.func b0 X.env) e t := ⟨h.run⟩
theorem peb_c {e : Expr} {t : TE} (h : PEC X (.func b0 X.env) e t) : PEB X b0 e t := ⟨h.run⟩
def tDisp2 (t1 tk tv : TE) : TE := fun σ H Q => ∀ d, H d = none → t1 σ (upd H d (.dK [])) fun v H2 => H2 d = some (.dK []) ∧ ∃ a kvs, v = .ref a ∧ a ≠ d ∧ H2 a = some (.dK kvs) ∧ kvs.length < sizeLine ∧
  ∀ z, upd H2 d (.dK kvs) z = none → tk σ (upd (upd H2 d (.dK kvs)) z (.dK [])) fun y H3 => tv σ H3 fun u H4 => H4 z = some (.dK []) ∧ H4 d = some (.dK kvs) ∧ ∃ key, y = kV key ∧ Q (.ref d) (upd (upd H4 z (.dK [(key, u)])) d (.dK (putK kvs key u)))
theorem ec_disp (h1 : PEC X c e1 t1) (hk : PE X ek tk) (hv : PE X ev tv) : PEC X c (.Dict [none, some ek] [e1, ev] pos) (tDisp2 t1 tk tv) := by
  refine ⟨fun pins s σ H Q I q => ?_⟩
  rw [arm_eval_Dict]
  refine wpAt_bind (wpAt_of_wpAny (wpAny_standAt ?_))
  show _root_.PySem.wpAt _ _ _ (dictDisplay [(none, do let x ← eval e1 X.env; standAt pos; pure x), (some (eval ek X.env), do let x ← eval ev X.env; standAt pos; pure x)]) _ _ _
  have hn := I.hok.fresh (Nat.le_refl s.heap.objs.size)
  have I1 := I.laid (a := s.heap.objs.size) (o := .dK []) (h' := s.heap.push { cls := .type "dict", data := .dict #[] }) (t' := s.toks) (fun _ _ y => Heap.get?_push_of_some _ y) (Nat.le_refl _) (dk_empty s.heap I.big)
  refine disp_two (wpAt_bind (wpAt_mono (h1.run pins _ σ _ _ I1 (q _ hn)) (fun u s2 hu => ?_) fun _ _ y => y))
  obtain ⟨v, H2, I2, rv, hd, a, kvs, ea, ne, ha, hz, q2⟩ := hu
  subst ea
  cases rv
  refine wpAt_of_wpAny (wpAny_bind (wpAny_standAt (wpAny_pure ?_)))
  obtain ⟨z1, z2, vs, rel, dd⟩ := dk_of I2.hok ha
  obtain ⟨y1, y2, vs0, rel0, dd0⟩ := dk_of I2.hok hd
  cases rel0
  refine ⟨a, vs, rfl, Ne.symm ne, z2, dd0, dd, by rw [← rel.length]; exact hz, fun h' m1 sb => ?_⟩
  have I3 : Inv X pins σ (upd H2 s.heap.objs.size (.dK kvs)) { s2 with heap := h' } := d_write (t' := s2.toks) I2 (by rw [hd]; exact True.intro) sb (by obtain ⟨o, _, _, hq, _⟩ := m1; exact ⟨o, hq⟩) (dk_new z1 y2 rel m1)
  have hn3 := I3.hok.fresh (Nat.le_refl h'.objs.size)
  have I4 := I3.laid (a := h'.objs.size) (o := .dK []) (h' := h'.push { cls := .type "dict", data := .dict #[] }) (t' := s2.toks) (fun _ _ y => Heap.get?_push_of_some _ y) (Nat.le_refl _) (dk_empty h' I3.big)
  refine wpAny_subDict (knd := mixKind X.prog X.w) (show 1 ≤ 15 by decide) ?_
  have P : PPs X pos [some ek] [ev] [(tk, tv)] := pps_cons hk hv pps_nil
  refine wpAny_mono (P.run pins _ σ _ (fun ps H4 => match ps with
    | [(y, u)] => H4 h'.objs.size = some (.dK []) ∧ H4 s.heap.objs.size = some (.dK kvs) ∧ ∃ key, y = kV key ∧ Q (.ref s.heap.objs.size) (upd (upd H4 h'.objs.size (.dK [(key, u)])) s.heap.objs.size (.dK (putK kvs key u)))
    | _ => False) I4 (q2 _ hn3)) (fun ws s4 hw => ?_) fun _ _ y => y
  obtain ⟨ps, H4, I5, rp, hw⟩ := hw
  have one : ∃ y u, ps = [(y, u)] := by
    cases ps with
    | nil => exact hw.elim
    | cons p r =>
      cases r with
      | nil => exact ⟨p.1, p.2, rfl⟩
      | cons _ _ => exact hw.elim
  obtain ⟨y, u, ep⟩ := one
  subst ep
  obtain ⟨g1, g2, key, ey, qq⟩ := hw
  subst ey
  obtain ⟨rs, cr, rk⟩ := carries_of (P := X.prog) (w := X.w) (kvs := [(key, u)]) rp
  obtain ⟨x1, x2, vs4, rel4, dd4⟩ := dk_of I5.hok g1
  cases rel4
  refine ⟨rs, cr, dd4, fun h5 m5 sb5 => ?_⟩
  have I6 : Inv X pins σ (upd H4 h'.objs.size (.dK [(key, u)])) { s4 with heap := h5, toks := s4.toks + ws.length } := d_write (t' := s4.toks + ws.length) I5 (by rw [g1]; exact True.intro) sb5 (by obtain ⟨o, _, _, hq, _⟩ := m5; exact ⟨o, hq⟩) (dk_new (by rw [List.length_singleton, sizeLine_eq]; omega) x2 (rk.merge .nil) m5)
  have nz : s.heap.objs.size ≠ h'.objs.size := fun t => by
    rw [← t] at g1
    rw [g1] at g2
    have e0 : kvs = [] := by cases g2; rfl
    subst e0
    have hh := I3.hok.fresh (Nat.le_refl h'.objs.size)
    rw [← t, upd_same] at hh
    cases hh
  cases rk with
  | cons r1 r2 =>
    cases r2
    rename_i p
    obtain ⟨k', u'⟩ := p
    obtain ⟨e1, r1⟩ := r1
    have e1 : key = k' := e1
    subst e1
    have gd : (upd H4 h'.objs.size (.dK [(key, u)])) s.heap.objs.size = some (.dK kvs) := by rw [upd_ne nz]; exact g2
    obtain ⟨w1, w2, vs6, rel6, dd6⟩ := dk_of I6.hok gd
    refine ⟨key, u', vs6, nz, x2, m5, dd6, by rw [← rel6.length]; exact hz, fun h7 m7 sb7 => ?_⟩
    refine ⟨.ref s.heap.objs.size, _, d_write (t' := s4.toks + ws.length) I6 (by rw [gd]; exact True.intro) sb7 (by obtain ⟨o, _, _, hq, _⟩ := m7; exact ⟨o, hq⟩) (dk_new ?_ w2 (rel6.put key r1) m7), rfl, qq⟩
    have z3 : (putK kvs key u).length ≤ kvs.length + 1 := length_putK kvs key u
    show (putK kvs key u).length ≤ sizeLine
    omega
end
end Lf
set_option maxHeartbeats 4000000
/-! Sup8: a def with **kw is called; statements of a body that starts with super(). -/
namespace Lf
open PySem PySem.Spec L2
open PyProof.Rows hiding St wpAt wpAt_bind wpAt_mono
section
variable {prog : Program} {w : World} {A : Around} {E : Value → Shared → Prop}
abbrev dObj (es : List DictEntry) (n : Nat) : Obj := PySem.W.dictOf es n
theorem fill1 {s : Shared} {D : Addr} {es : List DictEntry} {n : Nat} {k : Str} {v : Value} {Q : Unit → Shared → Prop} (hD : s.heap.get? D = some (dObj es n)) (hs : ∀ e ∈ es, e.key.isStr k = false) (hr : ∀ e ∈ es, e.refKey = false)
    (q : ∀ h', h'.get? D = some (dObj (es ++ [⟨PyData.keyHash w.params k, .str k s.toks, v⟩]) (n + 1)) → (∀ b, b ≠ D → h'.get? b = s.heap.get? b) → Q () { s with heap := h', toks := s.toks + 1 }) : wpAny (model prog w) A (nsSet D k v) Q E s := by
  have a1 : es.any (·.key.isStr k) = false := by
    rw [List.any_eq_false]
    intro e he
    simp [hs e he]
  have a2 : es.any (·.refKey) = false := by
    rw [List.any_eq_false]
    intro e he
    simp [hr e he]
  have e1 : Obj.putName k (PyData.keyHash w.params k) (.str k s.toks) v (dObj es n) = dObj (es ++ [⟨PyData.keyHash w.params k, .str k s.toks, v⟩]) (n + 1) := by
    rw [PySem.W.putName_dict, PySem.W.putL_new hs]
    show PySem.W.dictOf _ (if es.any (·.key.isStr k) then n else n + 1) = _
    rw [a1, if_neg Bool.false_ne_true]
  have nn : aRefKeyMayBeTheName k es.toArray = false := by
    rw [aRefKeyMayBeTheName_at, ← Array.any_toList, ← Array.any_toList]
    show (!es.any (·.key.isStr k) && es.any (·.refKey)) = false
    rw [a2, Bool.and_false]
  unfold nsSet
  refine wpAny_bind (wpAny_bind (wpAny_askSetting (wpAny_pure (wpAny_bind (wpAny_mkText (wpAny_bind (wpAny_loadPart hD ?_)))))))
  dsimp only
  rw [nn]
  refine wpAny_updatePart (s := { s with toks := s.toks + 1 }) hD (q _ ?_ fun b hb => Heap.get?_update_other s.heap _ (Ne.symm hb))
  have z := Heap.get?_update_self (Obj.putName k (PyData.keyHash w.params k) (.str k s.toks) v) hD (by rw [e1]; rfl)
  rw [e1] at z
  exact z
theorem fill_kw {D : Addr} {Q : PUnit → Shared → Prop} : ∀ (ex : List (Str × Value)) (s : Shared) (es : List DictEntry) (n : Nat), s.heap.get? D = some (dObj es n) → (∀ e ∈ es, ∀ x ∈ ex, e.key.isStr x.1 = false) → (∀ e ∈ es, e.refKey = false) → (ex.map (·.1)).Nodup →
    (∀ h', h'.get? D = some (dObj (es ++ PySem.W.kwEs w.params s.toks ex) (n + ex.length)) → (∀ b, b ≠ D → h'.get? b = s.heap.get? b) → Q ⟨⟩ { s with heap := h', toks := s.toks + ex.length }) →
    wpAny (model prog w) A (forIn ex PUnit.unit fun x _ => (nsSet D x.1 x.2 >>= fun _ => pure (ForInStep.yield PUnit.unit))) Q E s
  | [], s, es, n, hD, _, _, _, q => by
    rw [List.forIn_nil]
    exact wpAny_pure (q s.heap (by rw [hD]; simp [PySem.W.kwEs]) fun _ _ => rfl)
  | x :: r, s, es, n, hD, hs, hr, nd, q => by
    obtain ⟨n1, n2⟩ := List.nodup_cons.mp (show (x.1 :: r.map (·.1)).Nodup from nd)
    rw [List.forIn_cons]
    refine wpAny_bind (wpAny_bind (fill1 hD (fun e he => hs e he x (.head _)) hr fun h' g k => wpAny_pure ?_))
    show wpAny (model prog w) A (forIn r PUnit.unit fun y _ => (nsSet D y.1 y.2 >>= fun _ => pure (ForInStep.yield PUnit.unit))) Q E { s with heap := h', toks := s.toks + 1 }
    refine fill_kw r { s with heap := h', toks := s.toks + 1 } _ _ g (fun e he y hy => ?_) (fun e he => ?_) n2 fun h'' g2 k2 => ?_
    · rcases List.mem_append.mp he with he | he
      · exact hs e he y (.tail _ hy)
      · obtain rfl := List.mem_singleton.mp he
        show (x.1 == y.1) = false
        exact beq_eq_false_iff_ne.mpr fun z => n1 (by rw [z]; exact List.mem_map_of_mem hy)
    · rcases List.mem_append.mp he with he | he
      · exact hr e he
      · obtain rfl := List.mem_singleton.mp he
        rfl
    · have t1 : s.toks + 1 + r.length = s.toks + (r.length + 1) := by omega
      have t2 : n + 1 + r.length = n + (r.length + 1) := by omega
      show Q ⟨⟩ { s with heap := h'', toks := s.toks + 1 + r.length }
      rw [t1]
      refine q h'' ?_ fun b hb => (k2 b hb).trans (k b hb)
      rw [g2, t2, List.append_assoc]
      rfl
theorem kw_pairs : ∀ (ex : List (Str × Value)) (t : Tok), Pairs (mixKind prog w) (PySem.W.kwEs w.params t ex) (tks ex)
  | [], _ => .nil
  | x :: r, t => .cons (by rw [show (mixKind prog w).is (Sum.inr x.1) (Value.str x.1 t) = true from kV_is (k := Sum.inr x.1) ⟨t, rfl⟩]) rfl (kw_pairs r (t + 1))
theorem kw_dict {h : Heap} {D : Addr} {ex : List (Str × Value)} {t : Tok} {n : Nat} (hD : h.get? D = some (dObj (PySem.W.kwEs w.params t ex) n)) (nd : (ex.map (·.1)).Nodup) : h.DictOf (mixKind prog w) D (tks ex) := by
  refine ⟨_, _, n, hD, ⟨rfl, rfl, rfl⟩, rfl, fun e he => ?_, kw_pairs ex t, ?_⟩
  · obtain ⟨k, u, hk, hh⟩ := PySem.W.kwEs_key ex t e (List.mem_toArray.mp he)
    exact ⟨Sum.inr k, by rw [hk]; exact kV_is (k := Sum.inr k) ⟨u, rfl⟩, hh⟩
  · rw [List.map_map]
    have : ((fun p : Key × Value => p.1) ∘ fun p : Str × Value => ((Sum.inr p.1 : Key), p.2)) = fun p => Sum.inr p.1 := rfl
    rw [this]
    have z : (ex.map fun p => (Sum.inr p.1 : Key)) = (ex.map (·.1)).map Sum.inr := by rw [List.map_map]; rfl
    rw [z]
    exact List.Pairwise.map _ (fun a b h e => h (Sum.inr.inj e)) nd
end
end Lf
set_option maxHeartbeats 4000000
/-! Sup9: what a def with **kw binds; statements where super() may stand. -/
namespace Lf
open PySem PySem.Spec L2
open PyProof.Rows hiding St wpAt wpAt_bind wpAt_mono
section
variable {P : Program} {w : World} {K : Fg} {mg : Str → Option Value} {base : Heap} {A : Around} {outer : List Env} {s : Shared} {H : Hp}
theorem env0_new {h' : Heap} {t' : Nat} {u : HO} (e0 : Env0 P w K mg base A outer s H) (kp : ∀ b x, s.heap.get? b = some x → h'.get? b = some x) (there : ∃ o, h'.get? s.heap.objs.size = some o) (new : ObjOk P w (upd H s.heap.objs.size u) h' s.heap.objs.size u) :
    Env0 P w K mg base A outer { s with heap := h', toks := t' } (upd H s.heap.objs.size u) := by
  obtain ⟨o, ho⟩ := there
  refine ⟨e0.frames, e0.mod, fun b x e => ?_, ?_, Heap.FunFrames.of_keeps (fun b x e _ => ⟨x, kp b x e, rfl⟩) e0.funs, fun b hb => ?_, e0.hok.laid kp (Nat.le_refl _) new, e0.bare⟩
  · obtain ⟨g1, g2⟩ := e0.bs b x e
    exact ⟨kp b x g1, by rw [upd_ne (Nat.ne_of_lt (Heap.lt_size g1))]; exact g2⟩
  · exact Nat.le_trans e0.bsz (Nat.le_of_lt (Heap.lt_size ho))
  · obtain ⟨_, x, hx, _⟩ := e0.funs.mem hb
    rw [upd_ne (Nat.ne_of_lt (Heap.lt_size hx))]
    exact e0.frf b hb
theorem kv_same {kv : List (Str × V)} {ex : List (Str × Value)} (r : KV (tkv kv) (tks ex)) : kv.map (·.1) = ex.map (·.1) := by
  have z := r.keys
  rw [List.map_map, List.map_map] at z
  have e1 : (kv.map ((fun p : Key × V => p.1) ∘ fun p : Str × V => ((Sum.inr p.1 : Key), p.2))) = (kv.map (·.1)).map Sum.inr := by rw [List.map_map]; rfl
  have e2 : (ex.map ((fun p : Key × Value => p.1) ∘ fun p : Str × Value => ((Sum.inr p.1 : Key), p.2))) = (ex.map (·.1)).map Sum.inr := by rw [List.map_map]; rfl
  rw [e1, e2] at z
  exact List.map_inj_right (fun a b h => Sum.inr.inj h) |>.mp z
theorem bnd_kwd {fd : FuncData} {args : Args} {ps : List Str} {pd : Str} {us : List Value} {vs : List V} {ex : List (Str × Value)} {kv : List (Str × V)} {E : XK} (e0 : Env0 P w K mg base A outer s H)
    (hb : bindArgs fd args = (alloc ({ cls := .type "dict", data := .dict #[] } : Obj) >>= fun D => (forIn ex PUnit.unit fun x _ => (nsSet D x.1 x.2 >>= fun _ => pure (ForInStep.yield PUnit.unit))) >>= fun _ => pure (ps.zip us ++ [(pd, Value.ref D)])))
    (r : Vals vs us) (hl : vs.length = ps.length) (rx : KV (tkv kv) (tks ex)) (nd : (kv.map (·.1)).Nodup) (hz : kv.length ≤ 1000) :
    StX.Bnd CX0 P w K mg base fd args (ps ++ [pd]) A outer s H E (fun xs H2 => ∃ D, H D = none ∧ xs = vs ++ [V.ref D] ∧ H2 = upd H D (.dK (tkv kv))) := by
  intro A' Ex Q hQ
  have nd2 : (ex.map (·.1)).Nodup := by rw [← kv_same rx]; exact nd
  have lx : kv.length = ex.length := by
    have z := congrArg List.length (kv_same rx)
    rwa [List.length_map, List.length_map] at z
  have hn : H s.heap.objs.size = none := e0.hok.fresh (Nat.le_refl _)
  rw [hb]
  refine wpAny_bind (wpAny_alloc (wpAny_bind (fill_kw ex _ [] 0 (Heap.get?_push_size _ rfl) (fun _ he => nomatch he) (fun _ he => nomatch he) nd2 fun h' g k => wpAny_pure ?_)))
  have kp : ∀ b x, s.heap.get? b = some x → h'.get? b = some x := fun b x e => by
    rw [k b (Nat.ne_of_lt (Heap.lt_size e))]
    exact Heap.get?_push_of_some _ e
  have big : sysModules < s.heap.objs.size := StX.env0_big e0
  have new : ObjOk P w (upd H s.heap.objs.size (.dK (tkv kv))) h' s.heap.objs.size (.dK (tkv kv)) :=
    dk_new (by rw [List.length_map, sizeLine_eq]; omega) (by simpa using Nat.ne_of_gt big) rx (kw_dict g nd2)
  have z := hQ { s with heap := h', toks := s.toks + ex.length } (upd H s.heap.objs.size (.dK (tkv kv))) (vs ++ [V.ref s.heap.objs.size]) (us ++ [Value.ref s.heap.objs.size]) (env0_new e0 kp ⟨_, g⟩ new) (Un.laid kp (Nat.le_refl _) hn) rfl (fun _ _ y => y)
    (r.append (.cons rfl .nil)) (by rw [List.length_append, List.length_append, hl] <;> rfl) ⟨_, hn, rfl, rfl⟩
  rw [List.zip_append (by rw [← hl, r.length])] at z
  exact z
end
section
variable {X : Cx} {b0 : List Stmt} {σ : L2.St} {H : Hp} {D : Ends} {rest : List Stmt} {e : Expr} {t : TE} {pos : Pos}
theorem pb_ret (h : PEB X b0 e t) (k : t σ H D.rt) : PB X b0 (.Return (some e) pos :: rest) (tAt σ H D) := by
  refine ⟨fun pins s σ0 H0 D0 I q => ?_⟩
  obtain ⟨rfl, rfl, rfl⟩ := q
  refine ks_wpAt_execs_cons (ks_wpAt_Return_some (wpAt_mono (h.run pins s _ _ _ I k) (fun u s1 hu => ?_) fun _ _ z => z))
  obtain ⟨v, H1, I1, rv, q⟩ := hu
  exact ⟨v, _, H1, I1, rv, q⟩
theorem pb_expr (h : PEB X b0 e t) (k : t σ H fun _ H1 => PSs X rest (tAt σ H1 D)) (hi : interactive X.env = false) (hs : swapsWith e none pos.line X.env = pure false := by rfl) : PB X b0 (.Expr e pos :: rest) (tAt σ H D) := by
  refine ⟨fun pins s σ0 H0 D0 I q => ?_⟩
  obtain ⟨rfl, rfl, rfl⟩ := q
  refine ks_wpAt_execs_cons (ks_wpAt_Expr_any (wpAt_mono (h.run pins s _ _ _ I k) (fun u s1 hu => ?_) fun _ _ z => z) hi hs)
  obtain ⟨v, H1, I1, rv, q⟩ := hu
  exact wpAt_of_wpAny (q.run pins s1 _ _ _ I1 ⟨rfl, rfl, rfl⟩)
theorem pb_set {i : Nat} {x : Str} {p' : Pos} (hN : X.N.Nodup) (hi : X.N[i]? = some x) (hx : Loc X.env.scope x) (h : PEB X b0 e t) (k : t σ H fun v H1 => PSs X rest (tAt (σ.set i (some v)) H1 D)) (hs : swapsWith e (some (.Name x p')) pos.line X.env = pure false := by rfl)
    (hf : X.fn x = true ∨ X.env.scope.names.lookup x = some .local := by first | exact .inl rfl | exact .inr rfl) : PB X b0 (.Assign [.Name x p'] e pos :: rest) (tAt σ H D) := by
  refine ⟨fun pins s σ0 H0 D0 I q => ?_⟩
  obtain ⟨rfl, rfl, rfl⟩ := q
  refine ks_wpAt_execs_cons (ks_wpAt_Assign_Name (wpAt_mono (h.run pins s _ _ _ I k) (fun u s1 hu => ?_) fun _ _ z => z) hs)
  obtain ⟨v, H1, I1, rv, q⟩ := hu
  exact store_ok I1 hN hi hx rv (fun s2 I2 => wpAt_of_wpAny (q.run pins s2 _ _ _ I2 ⟨rfl, rfl, rfl⟩)) hf
end
end Lf
set_option maxHeartbeats 4000000
/-! Lay9: sorted(d.items()) of a dict with texts for keys; d.update(e). -/
namespace Lf
open PySem PySem.Spec L2
open PyProof.Rows hiding St
section
variable {prog : Program} {w : World} {A : Around} {E : Value → Shared → Prop} {s : Shared}
theorem eqBool_self (x : Value) {Q : Bool → Shared → Prop} (h : Q true s) : wpAny (model prog w) A (eqBool x x) Q E s := by
  unfold eqBool
  refine wpAny_holding ?_
  show wpAny _ _ (if (x == x) = true then _ else _) Q E s
  rw [if_pos (beq_self_eq_true x)]
  exact wpAny_bind (wpAny_rule (wpAny_pure h))
/-- v is a pair whose first is the text y -/
def PrS (h : Heap) (v : Value) (y : Str) : Prop := ∃ (a : Addr) (t : Tok) (u : Value), v = .ref a ∧ IsTup h a #[.str y t, u]
/-- the text of a pair -/
def prTx (h : Heap) (v : Value) : Str := DT.txOf (DT.seqAt0 h (DT.refOf (some v)))
theorem PrS.tx {h : Heap} {v : Value} {y : Str} (x : PrS h v y) : prTx h v = y := by
  obtain ⟨a, t, u, rfl, h1⟩ := x
  show DT.txOf (DT.seqAt0 h a) = y
  rw [DT.seqAt0_of h1]
  rfl
theorem PrS.keeps {h h' : Heap} {v : Value} {y : Str} (x : PrS h v y) (k : ∀ b o, h.get? b = some o → o.cls = .type "tuple" → h'.get? b = some o) : PrS h' v y := by
  obtain ⟨a, t, u, e, ⟨o, ho, hc, r⟩⟩ := x
  exact ⟨a, t, u, e, o, k _ _ ho hc, hc, r⟩
theorem prs_firsts {h : Heap} : ∀ vs : List Value, (∀ v ∈ vs, ∃ y, PrS h v y) → ∃ fs : List Value, PySem.W.KatTups h vs fs ∧ fs.length = vs.length ∧ ∀ f ∈ fs, ∃ x t, f = Value.str x t
  | [], _ => ⟨[], PySem.W.KatTups.nil, rfl, fun f hf => by simp at hf⟩
  | v :: vs, x => by
    obtain ⟨fs, k, hl, hi⟩ := prs_firsts vs fun u hu => x u (List.mem_cons_of_mem _ hu)
    obtain ⟨y, a, t, u, rfl, ⟨o, ho, hc, n, hd⟩⟩ := x v List.mem_cons_self
    refine ⟨.str y t :: fs, PySem.W.KatTups.cons ho hc hd rfl k, by rw [List.length_cons, List.length_cons, hl], fun f hf => ?_⟩
    rcases List.mem_cons.mp hf with rfl | hf
    · exact ⟨y, t, rfl⟩
    · exact hi f hf
def ltT (a b : Str) : Bool := decide (a.cps.toList < b.cps.toList)
theorem ltT_irr (a : Str) : ltT a a = false := decide_eq_false (List.lt_irrefl _)
theorem swo_ltT (k : Value → Str) : SrtO.Swo fun v u => ltT (k v) (k u) := ⟨fun x y h => decide_eq_false (fun z => List.lt_irrefl _ (List.lt_trans (of_decide_eq_true h) z)), fun x y z h1 h2 => by
  have a := of_decide_eq_false h1
  have b := of_decide_eq_false h2
  exact decide_eq_false (List.not_lt.mpr (List.le_trans (List.not_lt.mp a) (List.not_lt.mp b)))⟩
theorem prs_cmp {vs : List Value} {k : Value → Str} (hp : ∀ v ∈ vs, PrS s.heap v (k v)) (un : ∀ v ∈ vs, ∀ u ∈ vs, k v = k u → v = u) : SrtO.Cmp prog w A s (tuples' true) (fun p => p.1 ∈ vs) (SrtO.lt2 fun v u => ltT (k v) (k u)) := by
  intro p q hm hm'
  have h1 := hp _ hm
  have h2 := hp _ hm'
  have un' := un _ hm _ hm'
  show wpAny (model prog w) A (keyLt' (tuples' true) p.1 q.1) (fun r s' => s' = s ∧ r = ltT (k p.1) (k q.1)) (fun _ _ => False) s
  generalize k p.1 = x at h1 un' ⊢
  generalize k q.1 = y at h2 un' ⊢
  obtain ⟨a, t, u, e, o, ho, hc, n, hd⟩ := h1
  obtain ⟨a', t', u', e', o', ho', hc', n', hd'⟩ := h2
  rw [e, e'] at un' ⊢
  refine PySem.W.kat_lt ho hd ho' hd' ?_
  show PySem.W.KatLex prog w A true (decide (2 < 2)) _ [(.str x t, .str y t'), (u, u')] 0 s
  refine PySem.W.kat_cons (PySem.wpAny_eqBool_str ?_)
  refine PySem.W.kat_go (fun e1 => ?_) (fun e1 => ?_)
  · have ex : x = y := by simpa using e1
    have eu : u = u' := by
      have z : a = a' := Value.ref.inj (un' ex)
      subst z
      rw [ho] at ho'
      cases ho'
      rw [hd] at hd'
      have z2 := (Data.seq.inj hd').1
      have z3 := congrArg (fun (l : Array Value) => l[1]?) z2
      simpa using z3
    subst eu
    refine PySem.W.kat_yes (PySem.W.kat_cons (eqBool_self u ?_))
    refine PySem.W.kat_yes (PySem.W.kat_nil ⟨rfl, ?_⟩)
    rw [ex, ltT_irr]
    rfl
  · exact PySem.W.kat_no (PyProof.Rows.oneLt_str ⟨rfl, rfl⟩)
theorem prs_sortable {a : Addr} {vs : List Value} {k : Value → Str} (h0 : 0 < vs.length) (hp : ∀ v ∈ vs, PrS s.heap v (k v)) (un : ∀ v ∈ vs, ∀ u ∈ vs, k v = k u → v = u) (ha : ∀ o, s.heap.get? a = some o → o.cls ≠ .type "tuple") : SrtO.SortableO prog w A s a vs fun v u => ltT (k v) (k u) := by
  intro h' keep
  have hp' : ∀ v ∈ vs, PrS h' v (k v) := fun v hm => (hp v hm).keeps fun b o e c => keep b o (fun z => by subst z; exact ha o e c) e
  obtain ⟨fs, h1, h2, h3⟩ := prs_firsts vs fun v hm => ⟨_, hp' v hm⟩
  refine ⟨tuples' true, fun Q E hq => ?_, prs_cmp (s := { s with heap := h' }) hp' un⟩
  refine PySem.W.kat_kind (s := { s with heap := h' }) (T := .type "str") h1 (by omega) (fun f hm => ?_) (by rfl) ?_
  · obtain ⟨x, t, rfl⟩ := h3 f hm
    exact PySem.W.Looks.now
  · have e : (Value.type "str" != Value.type "tuple") = true := by first | decide +kernel | rfl | decide
    rw [e]
    exact hq
end

section
variable {X : Cx} {R : Rel} {σ : St} {H : Hp} {D : Ends} {a b e : Expr} {rest : List Stmt} {pos p : Pos} {φ ψ : Pv} {kds : DL} {j : Nat}
theorem mt_itemsK : MtR X "dict.items" (fun x xs H Q => ∃ (a : Addr) (kvs : List (Key × V)), x = .ref a ∧ xs = [] ∧ H a = some (.dK kvs) ∧ ∀ p, H p = none → Q (.ref p) (upd H p (DX.itemsO p a))) := by
  intro pins s σ H x xs v us Q I rx rxs h
  obtain ⟨a, kvs, rfl, rfl, ha, q⟩ := h
  cases rx
  cases rxs
  obtain ⟨z, hd, xs', rel, o, es, ep, ho, hx, hdat, _⟩ := dk_of I.hok ha
  refine DT.callItems (es := es) (ep := ep) hd ⟨o, ho, hx, hdat⟩ ?_
  exact ⟨.ref s.heap.objs.size, _, I.laid (t' := s.toks) (fun b u e => Heap.get?_push_of_some _ e) (Nat.le_refl _) (DX.itemsO_ok (Heap.get?_push_size _ rfl)), rfl, q _ (I.hok.fresh (Nat.le_refl _))⟩
theorem pairs_at {prog : Program} {w : World} {K : Type} [DecidableEq K] {knd : KeyKind prog w K} : ∀ {es : List DictEntry} {kvs : List (K × Value)} {i : Nat} {en : DictEntry}, Pairs knd es kvs → es[i]? = some en → ∃ kv, kvs[i]? = some kv ∧ knd.is kv.1 en.key = true ∧ en.val = kv.2
  | _, _, _, _, .nil, e => by simp at e
  | _, _, 0, en, .cons (kv := kv) h1 h2 _, e => by
    have z : _ = en := Option.some.inj (by simpa using e)
    subst z
    exact ⟨kv, rfl, h1, h2⟩
  | _, _, i + 1, _, .cons _ _ t, e => by
    obtain ⟨kv, e1, e2⟩ := pairs_at (i := i) t (by simpa using e)
    exact ⟨kv, by simpa using e1, e2⟩
abbrev entK (e : Str × V) : Key × V := (.inr e.1, e.2)
def rSortK : List V → Hp → VK → Prop := fun vs H Q => ∃ (p a : Addr) (ks : List (Str × V)), vs = [.ref p] ∧ H p = some (DX.itemsO p a) ∧ H a = some (.dK (ks.map entK)) ∧ (ks.map (·.1)).Nodup ∧
  ∀ (H' : Hp) (l : Addr) (ps : List (Addr × Str × V)), Ex H H' → (ps.map (·.2)).Perm ks → (ps.map (·.2)).Pairwise (fun e f => ltT f.1 e.1 = false) → H' l = some (.lst (ps.map fun z => V.ref z.1)) →
    (∀ z ∈ ps, H' z.1 = some (.tup [.str z.2.1, z.2.2])) → Q (.ref l) H'
theorem is_str {prog : Program} {w : World} {y : Str} {v : Value} (h : (mixKind prog w).is (.inr y) v = true) : ∃ t, v = .str y t := by
  rw [mixKind_is] at h
  rcases keyIs_shape h with ⟨i, t, e, rfl⟩ | ⟨x, t, e, rfl⟩
  · cases e
  · cases e
    exact ⟨t, rfl⟩
theorem cr_sortedK (hc : X.calm = true) : CallR X (.builtin "sorted") rSortK := by
  intro pins s σ H xs us Q I r h
  obtain ⟨p, a, ks, rfl, hp, ha, hnd, q⟩ := h
  obtain rfl := Vals.ref1 r
  have view : s.heap.IsItemsView p a := (show ObjOk X.prog X.w H s.heap p (DX.itemsO p a) from I.hok p _ hp).1
  obtain ⟨z, hd, xs', rel, o, es, ep, ho, hx, hdat, hko, hpr, hn⟩ := dk_of I.hok ha
  have l1 : (ks.map entK).length = xs'.length := Paired.length rel
  rw [List.length_map] at l1
  rw [List.length_map] at z
  have l2 : es.size = xs'.length := by rw [← hpr.length, Array.length_toList]
  have hh : X.A.handled = none := I.ok.hd hc
  refine DT.sortedI (es := es) (ep := ep) hh view ⟨o, ho, hx, hdat⟩ (by omega) fun h' tk as hk hlt hl hG => ?_
  have lak : as.length = ks.length := by omega
  have nd : as.Nodup := List.Pairwise.imp (fun h => Nat.ne_of_lt h) hG.rise
  have pr : ∀ (j : Nat) (b : Addr), as[j]? = some b → ∃ (e : Str × V) (t : Tok) (u : Value), ks[j]? = some e ∧ RelV e.2 u ∧ h'.get? b = some { cls := .type "tuple", data := .seq #[Value.str e.1 t, u] } := by
    intro j b hj
    obtain ⟨en, he, hg⟩ := hG.pairs j b hj
    obtain ⟨kv, e1, e2, e3⟩ := pairs_at hpr (by rw [Array.getElem?_toList]; exact he)
    obtain ⟨e0, he0, r1, r2⟩ := DX.pget rel e1
    rw [List.getElem?_map] at he0
    cases hkj : ks[j]? with
    | none => rw [hkj] at he0; cases he0
    | some e =>
      rw [hkj] at he0
      have ee : entK e = e0 := Option.some.inj he0
      rw [← ee] at r1 r2
      have k1 : Sum.inr e.1 = kv.1 := r1
      rw [← k1] at e2
      obtain ⟨t, et⟩ := is_str e2
      exact ⟨e, t, en.val, rfl, by rw [e3]; exact r2, by rw [hg, et]⟩
  have hob : (h'.push { cls := .type "list", data := .seq (as.map Value.ref).toArray }).get? h'.objs.size = some (seqObj "list" (as.map Value.ref).toArray 0) := Heap.get?_push_size _ rfl
  have kb : ∀ b o, s.heap.get? b = some o → (h'.push { cls := .type "list", data := .seq (as.map Value.ref).toArray }).get? b = some o := fun b o e => Heap.get?_push_of_some _ (hk b o e)
  have ne0 : ∀ b o, h'.get? b = some o → b ≠ h'.objs.size := fun b o e => Nat.ne_of_lt (Heap.lt_size e)
  generalize hh2 : h'.push { cls := .type "list", data := .seq (as.map Value.ref).toArray } = h2 at hob kb ⊢
  have ka : ∀ b o, h'.get? b = some o → h2.get? b = some o := fun b o e => by rw [← hh2]; exact Heap.get?_push_of_some _ e
  have at_ : ∀ v ∈ as.map Value.ref, ∃ (j : Nat) (b : Addr) (e : Str × V), v = .ref b ∧ as[j]? = some b ∧ ks[j]? = some e ∧ PrS h2 v e.1 := by
    intro v hv'
    obtain ⟨b, hb, rfl⟩ := List.mem_map.mp hv'
    obtain ⟨j, hj⟩ := List.mem_iff_getElem?.mp hb
    obtain ⟨e, t, u, he, _, hg⟩ := pr j b hj
    exact ⟨j, b, e, rfl, hj, he, b, t, u, rfl, ⟨_, ka _ _ hg, rfl, 0, rfl⟩⟩
  have prk : ∀ v ∈ as.map Value.ref, PrS h2 v (prTx h2 v) := fun v hv' => by
    obtain ⟨j, b, e, rfl, _, _, hp'⟩ := at_ v hv'
    rw [hp'.tx]
    exact hp'
  have un : ∀ v ∈ as.map Value.ref, ∀ u ∈ as.map Value.ref, prTx h2 v = prTx h2 u → v = u := fun v hv' u hu' e => by
    obtain ⟨j, b, e1, rfl, hj, he, hp1⟩ := at_ v hv'
    obtain ⟨j2, b2, e2, rfl, hj2, he2, hp2⟩ := at_ u hu'
    rw [hp1.tx, hp2.tx] at e
    have m1 : (ks.map (·.1))[j]? = some e1.1 := by rw [List.getElem?_map, he]; rfl
    have m2 : (ks.map (·.1))[j2]? = some e2.1 := by rw [List.getElem?_map, he2]; rfl
    have ej : j = j2 := (List.getElem?_inj (List.getElem?_eq_some_iff.mp m1).1 hnd).mp (by rw [m1, m2, e])
    subst ej
    rw [hj] at hj2
    cases hj2
    rfl
  refine wpAny_call_entry PyProof.Rows.slot_list_sort ⟨_, hob, rfl⟩ PyProof.Rows.entry_list_sort
    (SrtO.list_sort_ord (s := { s with heap := h2, toks := tk }) (swo_ltT (prTx h2)) hob (by rw [List.length_map]; omega) (fun g2 => prs_sortable (s := { s with heap := h2, toks := tk }) (by omega) prk un fun o e => by rw [hob] at e; cases e; simp [seqObj]) fun out o1 o2 => ⟨.none, rfl, ?_⟩) (PyProof.Rows.args_list_sort _)
  show EP X pins σ Q (.ref h'.objs.size) { s with heap := sortedHeap h2 h'.objs.size (as.map Value.ref) out.toArray, toks := tk }
  obtain ⟨zs, pz, ez⟩ := perm_lift (fun z : Addr × Str × V => Value.ref z.1) o2.perm (as.zip ks) (by
    have m2 : (as.zip ks).map (·.1) = as := List.map_fst_zip (by rw [lak]; exact Nat.le_refl _)
    have e : (as.zip ks).map (fun z : Addr × Str × V => Value.ref z.1) = ((as.zip ks).map (·.1)).map Value.ref := by rw [List.map_map]; rfl
    rw [e, m2])
  have idx : ∀ z ∈ zs, ∃ j : Nat, as[j]? = some z.1 ∧ ks[j]? = some z.2 := by
    intro z' hz'
    obtain ⟨j, hj⟩ := List.mem_iff_getElem?.mp (pz.mem_iff.mp hz')
    exact ⟨j, List.getElem?_zip_eq_some.mp hj⟩
  have hperm : (zs.map (·.2)).Perm ks := by
    have e := pz.map (·.2)
    have m2 : (as.zip ks).map (·.2) = ks := List.map_snd_zip (by rw [lak]; exact Nat.le_refl _)
    rw [m2] at e
    exact e
  have txz : ∀ z ∈ zs, prTx h2 (.ref z.1) = z.2.1 := fun z hz => by
    obtain ⟨j, j1, j2⟩ := idx z hz
    obtain ⟨e, t, u, he, _, hg⟩ := pr j z.1 j1
    rw [j2] at he
    cases he
    exact PrS.tx ⟨z.1, t, u, rfl, ⟨_, ka _ _ hg, rfl, 0, rfl⟩⟩
  have hsort : (zs.map (·.2)).Pairwise (fun e f => ltT f.1 e.1 = false) := by
    have o3 : SrtO.Srtd (fun v u => ltT (prTx h2 v) (prTx h2 u)) out := o1
    rw [← ez] at o3
    rw [List.pairwise_map]
    refine List.Pairwise.imp_of_mem (fun {x y} hx hy h => ?_) (List.pairwise_map.mp o3)
    have h' : ltT (prTx h2 (.ref y.1)) (prTx h2 (.ref x.1)) = false := h
    rw [txz x hx, txz y hy] at h'
    exact h'
  have kF : ∀ b o, b ≠ h'.objs.size → h2.get? b = some o → (sortedHeap h2 h'.objs.size (as.map Value.ref) out.toArray).get? b = some o := fun b o hb e => (PyProof.Rows.sortedHeap_old hb (Heap.lt_size e)).trans e
  have kS : ∀ b o, s.heap.get? b = some o → (sortedHeap h2 h'.objs.size (as.map Value.ref) out.toArray).get? b = some o := fun b o e => kF b o (ne0 _ _ (hk b o e)) (kb b o e)
  obtain ⟨eF, heF⟩ := PyProof.Rows.sortedHeap_at (vs := as.map Value.ref) (out := out.toArray) hob
  have I1 : Inv X pins σ H { s with heap := sortedHeap h2 h'.objs.size (as.map Value.ref) out.toArray, toks := tk } := I.kept (t' := tk) kS
  have hn0 : H h'.objs.size = none := I.hok.fresh (Nat.le_of_lt hlt)
  have hlen : (zs.map fun z => V.ref z.1).length ≤ sizeLine := by
    have e := hperm.length_eq
    rw [List.length_map] at e
    rw [List.length_map]
    omega
  have rv : Vals (zs.map fun z => V.ref z.1) out := by
    rw [← ez]
    exact vals_maps (fun z : Addr × Str × V => V.ref z.1) (fun z => Value.ref z.1) zs fun _ _ => rfl
  have I2 : Inv X pins σ (upd H h'.objs.size (.lst (zs.map fun z => V.ref z.1))) { s with heap := sortedHeap h2 h'.objs.size (as.map Value.ref) out.toArray, toks := tk } :=
    I1.take (h' := sortedHeap h2 h'.objs.size (as.map Value.ref) out.toArray) (t' := tk) (fun b ob _ e => e) (I.fpOk (Nat.le_of_lt hlt) hn0) ⟨hlen, out, eF, rv, by simpa using heF⟩
  obtain ⟨H2, I3, g, qt⟩ := DX.takeT (P := fun b vs => ∃ (j : Nat) (e : Str × V), as[j]? = some b ∧ ks[j]? = some e ∧ vs = [.str e.1, e.2]) I as _ I2 nd fun b hb => by
    obtain ⟨j, hj⟩ := List.mem_iff_getElem?.mp hb
    obtain ⟨e, t, u, he, hu, hg⟩ := pr j b hj
    have hbl : s.heap.objs.size ≤ b := Nat.le_of_lt (hG.above b hb)
    refine ⟨hbl, ?_, [.str e.1, e.2], ⟨j, e, hj, he, rfl⟩, fun H3 => ⟨(by rw [sizeLine_eq]; show 2 ≤ 16777216; omega), [Value.str e.1 t, u], .cons ⟨t, rfl⟩ (.cons hu .nil), ⟨_, kF _ _ (ne0 _ _ hg) (ka _ _ hg), rfl, 0, rfl⟩⟩⟩
    rw [upd_ne (ne0 _ _ hg)]
    exact I.hok.fresh hbl
  have gr : Ex H H2 := fun b o e => g b o (by rw [upd_ne (ne_of_none e hn0)]; exact e)
  refine ⟨.ref h'.objs.size, H2, I3, rfl, q H2 h'.objs.size zs gr hperm hsort (g _ _ upd_same) fun z' hz' => ?_⟩
  obtain ⟨i, i1, i2⟩ := idx z' hz'
  obtain ⟨vs, ⟨j, e, j1, j2, ev⟩, hH⟩ := qt z'.1 (List.mem_of_getElem? i1)
  have eij : i = j := (List.getElem?_inj (List.getElem?_eq_some_iff.mp i1).1 nd).mp (i1.trans j1.symm)
  subst eij
  have ee : e = z'.2 := Option.some.inj (j2.symm.trans i2)
  rw [ev, ee] at hH
  exact hH
end
end Lf
set_option maxHeartbeats 4000000
/-! Lay10: d.update(e) and sorted(d.items()) as readings. -/
namespace Lf
open PySem PySem.Spec L2
open PyProof.Rows hiding St
section
variable {K : Fg} {H H' : Hp}
mutual
theorem dp_map (ts : ∀ a xs, Rd H a (.tup xs) → Rd H' a (.tup xs)) (ls : ∀ a xs, Rd H a (.lst xs) → Rd H' a (.lst xs)) : ∀ {d : PyData} {v : V}, Dp K H v d → Dp K H' v d
  | .none, _, h => by cases h; exact .non
  | .bool b, _, h => by cases h; exact .bl b
  | .int i, _, h => by cases h; exact .int i
  | .str z, _, h => by cases h; exact .str z
  | .list ds, _, h => by
    cases h with
    | lst hs ha => exact .lst (hs.imp (ls _ _) id) (dp_mapAll ts ls ha)
  | .tuple ds, _, h => by
    cases h with
    | tup hs ha => exact .tup (hs.imp (ts _ _) id) (dp_mapAll ts ls ha)
  | .dict _, _, h => by cases h
theorem dp_mapAll (ts : ∀ a xs, Rd H a (.tup xs) → Rd H' a (.tup xs)) (ls : ∀ a xs, Rd H a (.lst xs) → Rd H' a (.lst xs)) : ∀ {ds : List PyData} {vs : List V}, DpAll K H vs ds → DpAll K H' vs ds
  | [], _, h => by cases h; exact .nil
  | d :: ds, _, h => by
    cases h with
    | cons h1 h2 => exact .cons (dp_map ts ls h1) (dp_mapAll ts ls h2)
end
theorem rd_unlock {l c : Addr} {od : Obj} {kvs : List (Key × V)} {u : HO} (z : H l = some (.frz od (.dK kvs))) (nd : u ≠ .dK kvs) (nf : u ≠ .frz od (.dK kvs)) (r : Rd H c u) : Rd (upd H l (.dK kvs)) c u := by
  rcases r with r | ⟨o, r⟩
  · by_cases e : c = l
    · rw [e, z] at r
      cases r
      exact absurd rfl nf
    · exact .inl (by rw [upd_ne e]; exact r)
  · by_cases e : c = l
    · rw [e, z] at r
      cases r
      exact absurd rfl nd
    · exact .inr ⟨o, by rw [upd_ne e]; exact r⟩
end
section
variable {X : Cx} {R : Rel} {σ : St} {H : Hp} {D : Ends} {a b e : Expr} {rest : List Stmt} {pos p apos : Pos} {φ ψ : Pv} {kds : DL} {j : Nat}
theorem mt_updateK : MtR X "dict.update" (fun x xs H Q => ∃ (a b : Addr) (kvs more : List (Key × V)), x = .ref a ∧ xs = [.ref b] ∧ a ≠ b ∧ H a = some (.dK kvs) ∧ H b = some (.dK more) ∧ kvs.length + more.length ≤ sizeLine ∧ Q .non (upd H a (.dK (mergeK kvs more)))) := by
  intro pins s σ H x xs v us Q I rx rxs h
  obtain ⟨a, b, kvs, more, rfl, rfl, ne, ha, hb, hz, q⟩ := h
  cases rx
  obtain ⟨u, rfl, ru⟩ := vals1 rxs
  cases ru
  obtain ⟨z, hd, vs, rel, dd⟩ := dk_of I.hok ha
  obtain ⟨z2, hd2, ms, rel2, dd2⟩ := dk_of I.hok hb
  refine call_meetsIn PySem.F.slot_dict_update dd.typeIs PySem.F.entry_dict_update (PySem.F.args_dict_update_2 _ _) (meets_dict_update (mixKind X.prog X.w) a b ne hd2) ⟨vs, ms, dd, dd2, by rw [← rel.length, ← rel2.length]; exact hz, fun h' dd' _ hs => ?_⟩
  have he : ∃ q, h'.get? a = some q := let ⟨q, _, _, hq, _⟩ := dd'; ⟨q, hq⟩
  exact ⟨.non, _, d_write (t' := s.toks) I (by rw [ha]; exact True.intro) hs he (dk_new (Nat.le_trans (by have := length_mergeK more kvs; omega) hz) hd (KV.merge rel2 rel) dd'), rfl, q⟩
theorem own_tyD {K : Fg} {l : Addr} {kvs : List (Key × V)} (h : H l = some (.dK kvs)) : tyV K "dict" (.ref l) H := .inr (.inr (.inl ⟨rfl, .inl ⟨kvs, h⟩⟩))
/-- known.update({..}) -/
theorem bs_update {i : Nat} {x : Str} {l : Addr} {kvs : List (Key × V)} (hs : σ[i]? = some (some (.ref l))) (hN : X.N[i]? = some x) (vis : Vis X.env.scope x) (hl : H l = some (.dK kvs)) (hz : kvs.length + kds.length ≤ sizeLine) (he : ∀ od, PE X e (tG Ex σ (upd H l (.frz od (.dK kvs))) (IsDic X.K kds)))
    (k : ∀ more H', Ex H H' → DicR X.K H' more kds → PSs X rest (tAt σ (upd H' l (.dK (mergeK kvs more))) D)) (hd : (x == ("__debug__" : Str)) = false := by decide) (hcd : (x == ("__classdict__" : Str)) = false := by decide)
    (hbase : attributeBase (.Name x p) "update" X.env (eval (.Name x p) X.env) = eval (.Name x p) X.env := by rfl)
    {cpos : Pos} (hfew : ((backTo cpos (starEach [e] X.env)).all (fun x => !x.1) && (backToKw cpos (keywordEach [] X.env)).all (fun x => x.1.isSome) && decide ([e].length + ([] : List Keyword).length + (if ([] : List Keyword).isEmpty then 0 else 1) < 30)) = true := by rfl)
    (hline : (apos.endLine == cpos.line) = true := by rfl) (he1 : starEach [e] X.env = (false, eval e X.env) :: starEach [] X.env := by rfl) (hsw : swapsWith (.Call (.Attribute (.Name x p) "update" apos) [e] [] cpos) none pos.line X.env = pure false := by rfl) :
    PSs X (.Expr (.Call (.Attribute (.Name x p) "update" apos) [e] [] cpos) pos :: rest) (tAt σ H D) := by
  have he' : PE X e (tG Ex σ H (fun v H' => ∃ b more, v = .ref b ∧ b ≠ l ∧ H' b = some (.dK more) ∧ DicR X.K H' more kds)) := de_lock hl he fun v H' od z ⟨b, more, ev, hb, dr⟩ => by
    have ne : b ≠ l := fun q => by rw [q, z] at hb; cases hb
    refine ⟨b, more, ev, ne, by rw [upd_ne ne]; exact hb, ?_⟩
    refine Paired.mapP dr fun p q w => ⟨w.1, ?_⟩
    exact dp_map (fun c xs r => rd_unlock z (fun q => by cases q) (fun q => by cases q) r) (fun c xs r => rd_unlock z (fun q => by cases q) (fun q => by cases q) r) w.2
  refine bs_seq (ps_expr (pe_bm PySem.F.plainAttrs_dict PySem.F.slot_dict_update PySem.F.type_dict_update mt_updateK (pe_var (i := i) hN vis hd hcd) (da_cons rlEx (fun v a b h ⟨c, zs, e1, e2, e3, e4⟩ => ⟨c, zs, e1, e2, h _ _ e3, e4.mono rlEx h⟩) he' (da_nil rlEx) he1) hbase hfew hline he1) hsw) ?_
  refine ⟨.ref l, hs, own_tyD hl, rfl, Ex.rfl' _, fun vs H' h' q => ?_⟩
  obtain ⟨v, rfl, b, more, rfl, ne, hb, dr⟩ := all1 q
  exact ⟨l, b, kvs, more, rfl, rfl, Ne.symm ne, h' _ _ hl, hb, by rw [dicR_length dr]; exact hz, k more H' h' dr⟩

/-- a view of the items of a dict -/
def IsItms (K : Fg) (kds : DL) : Pv := fun v H => ∃ q a kvs, v = .ref q ∧ H q = some (DX.itemsO q a) ∧ H a = some (.dK kvs) ∧ DicR K H kvs kds
theorem mo_itms {K : Fg} : Mo Ex (IsItms K kds) := fun _ _ _ x ⟨q, a, kvs, e, h, h2, d⟩ => ⟨q, a, kvs, e, x _ _ h, x _ _ h2, d.mono rlEx x⟩
theorem de_items {cpos : Pos} (he : PE X e (tG Ex σ H (IsDic X.K kds))) (hbase : attributeBase e "items" X.env (eval e X.env) = eval e X.env := by rfl) (hline : (apos.endLine == cpos.line) = true := by rfl) : PE X (.Call (.Attribute e "items" apos) [] [] cpos) (tG Ex σ H (IsItms X.K kds)) :=
  PE.imp (pe_bm0 PySem.F.plainAttrs_dict PySem.F.slot_dict_items PySem.F.type_dict_items mt_itemsK he hbase hline) fun _ _ _ ⟨e1, h1, k⟩ => ⟨e1, h1, fun v H2 h2 p => by
    obtain ⟨a, kvs, rfl, ha, dr⟩ := p
    refine ⟨own_tyD ha, a, kvs, rfl, rfl, ha, fun q hq => ?_⟩
    exact k _ _ (h2.tr (Ex.new hq)) ⟨q, a, kvs, rfl, upd_same, Ex.new hq _ _ ha, dr.mono rlEx (Ex.new hq)⟩⟩
theorem dicR_text {α : Type} {f : α → PyData} {K : Fg} : ∀ {l : List (Str × α)} {kvs : List (Key × V)}, DicR K H kvs (l.map fun p => ((Sum.inr p.1 : Key), f p.2)) → ∃ ks : List (Str × V), kvs = ks.map entK ∧ Paired (fun (x : Str × V) (y : Str × α) => x.1 = y.1 ∧ Dp K H x.2 (f y.2)) ks l
  | [], _, h => by cases h; exact ⟨[], rfl, .nil⟩
  | y :: l, _, h => by
    cases h with
    | cons h1 h2 =>
      obtain ⟨ks, e, r⟩ := dicR_text h2
      refine ⟨(y.1, _) :: ks, ?_, .cons ⟨rfl, h1.2⟩ r⟩
      rw [e, List.map_cons]
      congr 1
      exact Prod.ext h1.1 rfl
theorem paired_zip {α β : Type} {F : α → β → Prop} : ∀ {l : List α} {m : List β}, Paired F l m → (l.zip m).map (·.1) = l ∧ (l.zip m).map (·.2) = m ∧ ∀ z ∈ l.zip m, F z.1 z.2
  | _, _, .nil => ⟨rfl, rfl, fun z h => by simp at h⟩
  | _, _, .cons h t => by
    obtain ⟨a, b, c⟩ := paired_zip t
    refine ⟨by rw [List.zip_cons_cons, List.map_cons, a], by rw [List.zip_cons_cons, List.map_cons, b], fun z hz => ?_⟩
    rw [List.zip_cons_cons] at hz
    rcases List.mem_cons.mp hz with rfl | hz
    · exact h
    · exact c z hz
theorem dpall_of {α : Type} {K : Fg} {g : α → V} {f : α → PyData} : ∀ {l : List α}, (∀ x ∈ l, Dp K H (g x) (f x)) → DpAll K H (l.map g) (l.map f)
  | [], _ => .nil
  | x :: l, h => .cons (h x List.mem_cons_self) (dpall_of fun y hy => h y (List.mem_cons_of_mem _ hy))
/-- sorted(d.items()): the pairs in order of their texts -/
theorem de_sortedIt {α : Type} {l : List (Str × α)} {f : α → PyData} (hc : X.calm = true) (hg : Gl X "sorted") (hm : X.mg "sorted" = none) (ha : PE X e (tG Ex σ H (IsItms X.K (l.map fun p => ((Sum.inr p.1 : Key), f p.2))))) (nd : (l.map (·.1)).Nodup) {ys : List (Str × α)}
    (un : ∀ zs : List (Str × α), zs.Perm l → zs.Pairwise (fun x y => ltT y.1 x.1 = false) → zs = ys) (he : starEach [e] X.env = (false, eval e X.env) :: starEach [] X.env := by rfl) :
    PE X (.Call (.Name "sorted" p) [e] [] pos) (tG Ex σ H (Hd X.K (.list (ys.map fun p => .tuple [.str p.1, f p.2])))) :=
  de_cb rlEx (cr_sortedK hc) hg hm (by decide +kernel) (da_cons rlEx mo_itms ha (da_nil rlEx) he) (fun vs H1 _ q Q k => by
    obtain ⟨v, rfl, h⟩ := all1 q
    obtain ⟨q0, a, kvs, rfl, hq, hl, dr⟩ := h
    obtain ⟨ks, rfl, pr⟩ := dicR_text dr
    obtain ⟨z1, z2, z3⟩ := paired_zip pr
    have ek : ks.map (·.1) = l.map (·.1) := by
      rw [← z1]
      conv => rhs; rw [← z2]
      rw [List.map_map, List.map_map]
      exact List.map_congr_left fun z hz => (z3 z hz).1
    refine ⟨q0, a, ks, rfl, hq, hl, by rw [ek]; exact nd, fun H' t ps ex hp hs ht hz => ?_⟩
    obtain ⟨Z, pz, ez⟩ := perm_lift (fun z : (Str × V) × (Str × α) => z.1) hp (ks.zip l) z1
    have fz : ∀ z ∈ Z, z.1.1 = z.2.1 ∧ Dp X.K H1 z.1.2 (f z.2.2) := fun z hz => z3 z (pz.mem_iff.mp hz)
    have ezs : Z.map (·.2) = ys := un _ (by
      have e := pz.map (·.2)
      rw [z2] at e
      exact e) (by
      rw [List.pairwise_map]
      rw [← ez, List.pairwise_map] at hs
      refine List.Pairwise.imp_of_mem (fun {x y} hx hy h => ?_) hs
      rw [← (fz x hx).1, ← (fz y hy).1]
      exact h)
    refine k _ H' ex (.lst (.inl (.inl ht)) ?_)
    -- the addresses of the pairs, beside Z
    have len : ps.length = Z.length := by
      have e := congrArg List.length ez
      rw [List.length_map, List.length_map] at e
      exact e.symm
    have pq : Paired (fun (x : Addr × Str × V) (z : (Str × V) × (Str × α)) => H' x.1 = some (.tup [.str z.2.1, z.1.2]) ∧ Dp X.K H' z.1.2 (f z.2.2)) ps Z := by
      clear hp hs ht pz ezs len
      induction ps generalizing Z with
      | nil =>
        cases Z with
        | nil => exact .nil
        | cons z Z => simp at ez
      | cons x ps ih =>
        cases Z with
        | nil => simp at ez
        | cons z Z =>
          rw [List.map_cons, List.map_cons] at ez
          injection ez with e1 e2
          have e1 : z.1 = x.2 := e1
          have g := hz x List.mem_cons_self
          obtain ⟨f1, f2⟩ := fz z List.mem_cons_self
          rw [← e1, f1] at g
          exact .cons ⟨g, rlEx.dp ex f2⟩ (ih (fun w hw => hz w (List.mem_cons_of_mem _ hw)) Z e2 (fun w hw => fz w (List.mem_cons_of_mem _ hw)))
    rw [← ezs, List.map_map]
    clear hp hs ht hz pz ezs len ez fz
    induction pq with
    | nil => exact .nil
    | cons h t ih => exact .cons (.tup (.inl (.inl h.1)) (.cons (.str _) (.cons h.2 .nil))) ih) (he := he)
end
end Lf
set_option maxHeartbeats 4000000
/-! Mth1: lists of names with what they stand for: put, sorted, found. -/
namespace Lf
open PySem PySem.Spec L2
open PyProof.Rows hiding St
theorem sLt_irr (a : Str) : sLt a a = false := ltT_irr a
theorem sLt_tr {a b c : Str} (h1 : sLt a b = true) (h2 : sLt b c = true) : sLt a c = true := decide_eq_true (List.lt_trans (of_decide_eq_true h1) (of_decide_eq_true h2))
theorem sLt_as {a b : Str} (h1 : sLt a b = true) : sLt b a = false := by
  cases q : sLt b a with
  | false => rfl
  | true => have := sLt_tr h1 q; rw [sLt_irr] at this; cases this
theorem sLt_tot {a b : Str} (h1 : sLt a b = false) (h2 : sLt b a = false) : a = b := by
  have x := List.le_antisymm (List.not_lt.mp (of_decide_eq_false h2)) (List.not_lt.mp (of_decide_eq_false h1))
  cases a with
  | mk a =>
    cases b with
    | mk b => exact congrArg Str.mk (Array.toList_inj.mp x)
theorem sLt_ne {a b : Str} (h : sLt a b = true) : a ≠ b := fun e => by rw [e, sLt_irr] at h; cases h
theorem sLt_or {a b : Str} (h : a ≠ b) : sLt a b = true ∨ sLt b a = true := by
  cases q : sLt a b with
  | true => exact .inl rfl
  | false =>
    cases q2 : sLt b a with
    | true => exact .inr rfl
    | false => exact absurd (sLt_tot q q2) h
/-- names that go up -/
abbrev Up (xs : List Str) : Prop := xs.Pairwise fun x y => sLt x y = true
theorem up_cons {x : Str} {l : List Str} : Up (x :: l) ↔ (∀ y ∈ l, sLt x y = true) ∧ Up l := List.pairwise_cons
theorem up_rising : ∀ {xs : List Str}, rising xs = true ↔ Up xs
  | [] => ⟨fun _ => .nil, fun _ => rfl⟩
  | [x] => ⟨fun _ => List.pairwise_singleton _ _, fun _ => rfl⟩
  | x :: y :: r => by
    have e : rising (x :: y :: r) = (sLt x y && rising (y :: r)) := by
      unfold rising
      simp [List.zip_cons_cons]
    rw [e, Bool.and_eq_true, up_rising, up_cons (x := x)]
    constructor
    · rintro ⟨h1, h2⟩
      refine ⟨fun z hz => ?_, h2⟩
      rcases List.mem_cons.mp hz with rfl | hz
      · exact h1
      · exact sLt_tr h1 ((up_cons.mp h2).1 z hz)
    · rintro ⟨h1, h2⟩
      exact ⟨h1 y List.mem_cons_self, h2⟩
theorem up_nodup {xs : List Str} (h : Up xs) : xs.Nodup := List.Pairwise.imp (fun h => sLt_ne h) h
section
variable {α : Type}
abbrev AL (α : Type) := List (Str × α)
theorem fnd_cons {c : Str} {p : Str × α} {l : AL α} : fnd c (p :: l) = if p.1 = c then some p.2 else fnd c l := rfl
theorem fnd_none {c : Str} : ∀ {l : AL α}, c ∉ l.map (·.1) → fnd c l = none
  | [], _ => rfl
  | p :: l, h => by
    rw [List.map_cons, List.mem_cons, not_or] at h
    unfold fnd
    rw [if_neg (Ne.symm h.1)]
    exact fnd_none h.2
theorem fnd_in {c : Str} {x : α} : ∀ {l : AL α}, fnd c l = some x → (c, x) ∈ l
  | [], h => by cases h
  | p :: l, h => by
    unfold fnd at h
    by_cases e : p.1 = c
    · rw [if_pos e] at h
      cases h
      rw [← e]
      exact List.mem_cons_self
    · rw [if_neg e] at h
      exact List.mem_cons_of_mem _ (fnd_in h)
theorem fnd_key {c : Str} {x : α} {l : AL α} (h : fnd c l = some x) : c ∈ l.map (·.1) := List.mem_map.mpr ⟨_, fnd_in h, rfl⟩
theorem fnd_of {c : Str} {x : α} : ∀ {l : AL α}, (l.map (·.1)).Nodup → (c, x) ∈ l → fnd c l = some x
  | [], _, h => by cases h
  | p :: l, nd, h => by
    rw [List.map_cons, List.nodup_cons] at nd
    unfold fnd
    rcases List.mem_cons.mp h with e | h
    · rw [← e, if_pos rfl]
    · have ne : ¬ p.1 = c := fun e => nd.1 (List.mem_map.mpr ⟨_, h, e.symm⟩)
      rw [if_neg ne]
      exact fnd_of nd.2 h
theorem fnd_isSome {c : Str} {l : AL α} : (fnd c l).isSome = true ↔ c ∈ l.map (·.1) := by
  constructor
  · intro h
    obtain ⟨x, e⟩ := Option.isSome_iff_exists.mp h
    exact fnd_key e
  · intro h
    cases q : fnd c l with
    | some x => rfl
    | none =>
      obtain ⟨p, m, e⟩ := List.mem_map.mp h
      induction l with
      | nil => cases m
      | cons z l ih =>
        unfold fnd at q
        by_cases ez : z.1 = c
        · rw [if_pos ez] at q; cases q
        · rw [if_neg ez] at q
          rcases List.mem_cons.mp m with e2 | m2
          · exact absurd (by rw [← e2]; exact e) ez
          · exact ih (List.mem_map.mpr ⟨p, m2, e⟩) q m2
theorem fnd_perm {c : Str} {l m : AL α} (h : l.Perm m) (nd : (l.map (·.1)).Nodup) : fnd c l = fnd c m := by
  have nd2 : (m.map (·.1)).Nodup := (h.map _).nodup_iff.mp nd
  cases q : fnd c l with
  | none =>
    cases q2 : fnd c m with
    | none => rfl
    | some x =>
      have := fnd_of nd (h.mem_iff.mpr (fnd_in q2))
      rw [q] at this; cases this
  | some x => exact (fnd_of nd2 (h.mem_iff.mp (fnd_in q))).symm
/-- equal where found: equal, when the names go up -/
theorem al_ext : ∀ {l m : AL α}, Up (l.map (·.1)) → Up (m.map (·.1)) → (∀ c, fnd c l = fnd c m) → l = m
  | [], [], _, _, _ => rfl
  | [], q :: m, _, _, h => by have := h q.1; unfold fnd at this; rw [if_pos rfl] at this; cases this
  | p :: l, [], _, _, h => by have := h p.1; unfold fnd at this; rw [if_pos rfl] at this; cases this
  | p :: l, q :: m, a, b, h => by
    rw [List.map_cons, up_cons] at a b
    have nl : ∀ c, sLt p.1 c = false → c ∉ l.map (·.1) := fun c z k => by rw [a.1 c k] at z; cases z
    have nm : ∀ c, sLt q.1 c = false → c ∉ m.map (·.1) := fun c z k => by rw [b.1 c k] at z; cases z
    have e1 : p.1 = q.1 := by
      rcases Decidable.em (p.1 = q.1) with e | e
      · exact e
      · exfalso
        rcases sLt_or e with z | z
        · have := h p.1
          unfold fnd at this
          rw [if_pos rfl, if_neg (Ne.symm e), fnd_none (nm _ (sLt_as z))] at this
          cases this
        · have := h q.1
          unfold fnd at this
          rw [if_pos rfl, if_neg e, fnd_none (nl _ (sLt_as z))] at this
          cases this
    have e2 : p.2 = q.2 := by
      have := h p.1
      unfold fnd at this
      rw [if_pos rfl, if_pos e1.symm] at this
      exact Option.some.inj this
    have e3 : l = m := al_ext a.2 b.2 fun c => by
      by_cases e : p.1 = c
      · rw [fnd_none (nl c (by rw [← e, sLt_irr])), fnd_none (nm c (by rw [← e, ← e1, sLt_irr]))]
      · have := h c
        unfold fnd at this
        rw [if_neg e, if_neg (fun z => e (e1.trans z))] at this
        exact this
    rw [e3, Prod.ext e1 e2]
/-- written at a name -/
def putS (l : AL α) (c : Str) (x : α) : AL α := if l.any (fun p => decide (p.1 = c)) then l.map (fun p => if p.1 = c then (p.1, x) else p) else l ++ [(c, x)]
def mergeS (l m : AL α) : AL α := m.foldl (fun l p => putS l p.1 p.2) l
theorem fnd_app {c : Str} : ∀ {l m : AL α}, fnd c (l ++ m) = (fnd c l).or (fnd c m)
  | [], _ => rfl
  | p :: l, m => by
    rw [List.cons_append, fnd_cons, fnd_cons]
    by_cases e : p.1 = c
    · rw [if_pos e, if_pos e]; rfl
    · rw [if_neg e, if_neg e, fnd_app]
theorem any_fnd {c : Str} {l : AL α} : (l.any fun p => decide (p.1 = c)) = (fnd c l).isSome := by
  induction l with
  | nil => rfl
  | cons p l ih =>
    rw [List.any_cons, ih, fnd_cons]
    by_cases e : p.1 = c
    · rw [if_pos e, decide_eq_true e]; rfl
    · rw [if_neg e, decide_eq_false e]; rfl
theorem fnd_map {c d : Str} {x : α} : ∀ {l : AL α}, fnd c (l.map fun p => if p.1 = d then (p.1, x) else p) = if c = d then (fnd c l).map (fun _ => x) else fnd c l
  | [] => by by_cases e : c = d <;> simp [fnd, e]
  | p :: l => by
    rw [List.map_cons]
    by_cases e : p.1 = d
    · rw [if_pos e]
      unfold fnd
      by_cases e2 : p.1 = c
      · rw [if_pos e2, if_pos e2, if_pos (e2.symm.trans e)]; rfl
      · rw [if_neg e2, if_neg e2, fnd_map]
    · rw [if_neg e]
      unfold fnd
      by_cases e2 : p.1 = c
      · rw [if_pos e2, if_pos e2, if_neg (fun z => e (e2.trans z))]
      · rw [if_neg e2, if_neg e2, fnd_map]
theorem fnd_put {c d : Str} {x : α} {l : AL α} : fnd c (putS l d x) = if c = d then some x else fnd c l := by
  unfold putS
  rw [any_fnd]
  by_cases h : (fnd d l).isSome = true
  · rw [if_pos h, fnd_map]
    by_cases e : c = d
    · rw [if_pos e, if_pos e, e]
      obtain ⟨y, ey⟩ := Option.isSome_iff_exists.mp h
      rw [ey]; rfl
    · rw [if_neg e, if_neg e]
  · rw [if_neg h, fnd_app]
    have hn : fnd d l = none := by cases q : fnd d l with
      | none => rfl
      | some y => rw [q] at h; exact absurd rfl h
    by_cases e : c = d
    · rw [if_pos e, e, hn]
      show fnd d [(d, x)] = some x
      unfold fnd
      rw [if_pos rfl]
    · rw [if_neg e]
      have : fnd c [(d, x)] = none := by unfold fnd; rw [if_neg (Ne.symm e)]; rfl
      rw [this, Option.or_none]
theorem put_keys {d : Str} {x : α} {l : AL α} : (putS l d x).map (·.1) = if d ∈ l.map (·.1) then l.map (·.1) else l.map (·.1) ++ [d] := by
  unfold putS
  rw [any_fnd]
  by_cases h : (fnd d l).isSome = true
  · rw [if_pos h, if_pos (fnd_isSome.mp h), List.map_map]
    refine List.map_congr_left fun p _ => ?_
    show (if p.1 = d then (p.1, x) else p).1 = p.1
    split <;> rfl
  · rw [if_neg h, if_neg (fun z => h (fnd_isSome.mpr z)), List.map_append]
    rfl
theorem put_nodup {d : Str} {x : α} {l : AL α} (h : (l.map (·.1)).Nodup) : ((putS l d x).map (·.1)).Nodup := by
  rw [put_keys]
  split
  · exact h
  · rename_i z
    exact List.nodup_append.mpr ⟨h, by simp, fun a ha b hb e => z (by rw [List.mem_singleton.mp hb] at e; rw [← e]; exact ha)⟩
theorem merge_nodup : ∀ {m l : AL α}, (l.map (·.1)).Nodup → ((mergeS l m).map (·.1)).Nodup
  | [], _, h => h
  | p :: m, l, h => merge_nodup (m := m) (put_nodup h)
/-- sorted by name -/
def insS (p : Str × α) : AL α → AL α
  | [] => [p]
  | q :: l => if sLt q.1 p.1 = true then q :: insS p l else p :: q :: l
def sortS : AL α → AL α
  | [] => []
  | p :: l => insS p (sortS l)
theorem ins_perm (p : Str × α) : ∀ l : AL α, (insS p l).Perm (p :: l)
  | [] => .refl _
  | q :: l => by
    unfold insS
    split
    · exact ((ins_perm p l).cons q).trans (.swap ..)
    · exact .refl _
theorem sort_perm : ∀ l : AL α, (sortS l).Perm l
  | [] => .nil
  | p :: l => (ins_perm p _).trans ((sort_perm l).cons p)
theorem ins_up {p : Str × α} : ∀ {l : AL α}, Up (l.map (·.1)) → p.1 ∉ l.map (·.1) → Up ((insS p l).map (·.1))
  | [], _, _ => List.pairwise_singleton _ _
  | q :: l, h, n => by
    rw [List.map_cons, List.mem_cons, not_or] at n
    rw [List.map_cons, up_cons] at h
    unfold insS
    by_cases z : sLt q.1 p.1 = true
    · rw [if_pos z, List.map_cons, up_cons]
      refine ⟨fun c hc => ?_, ins_up h.2 n.2⟩
      have hc := ((ins_perm p l).map (·.1)).mem_iff.mp hc
      rw [List.map_cons] at hc
      rcases List.mem_cons.mp hc with rfl | hc
      · exact z
      · exact h.1 c hc
    · rw [if_neg z, List.map_cons, List.map_cons, up_cons, up_cons]
      have pq : sLt p.1 q.1 = true := (sLt_or n.1).resolve_right z
      refine ⟨fun c hc => ?_, h⟩
      rcases List.mem_cons.mp hc with rfl | hc
      · exact pq
      · exact sLt_tr pq (h.1 c hc)
theorem sort_up : ∀ {l : AL α}, (l.map (·.1)).Nodup → Up ((sortS l).map (·.1))
  | [], _ => .nil
  | p :: l, h => by
    rw [List.map_cons, List.nodup_cons] at h
    exact ins_up (sort_up h.2) fun z => h.1 (((sort_perm l).map (·.1)).mem_iff.mp z)
theorem sort_fnd {c : Str} {l : AL α} (h : (l.map (·.1)).Nodup) : fnd c (sortS l) = fnd c l := fnd_perm (sort_perm l) (((sort_perm l).map (·.1)).nodup_iff.mpr h)
theorem al_perm {l m : AL α} (a : Up (l.map (·.1))) (b : Up (m.map (·.1))) (h : l.Perm m) : l = m := al_ext a b fun c => fnd_perm h (up_nodup a)
/-- what sorted() gives is sortS -/
theorem sort_un {l zs : AL α} (nd : (l.map (·.1)).Nodup) (h : zs.Perm l) (s : zs.Pairwise fun x y => sLt y.1 x.1 = false) : zs = sortS l := by
  have ndz : (zs.map (·.1)).Nodup := (h.map (·.1)).nodup_iff.mpr nd
  refine al_perm ?_ (sort_up nd) (h.trans (sort_perm l).symm)
  have both : zs.Pairwise fun x y => sLt y.1 x.1 = false ∧ x.1 ≠ y.1 := List.pairwise_and_iff.mpr ⟨s, List.pairwise_map.mp ndz⟩
  exact List.pairwise_map.mpr (List.Pairwise.imp (fun h => (sLt_or h.2).resolve_right (by rw [h.1]; simp)) both)
/-- one name's entry replaced -/
def setS (l : AL α) (c : Str) (x : α) : AL α := l.map fun p => if p.1 = c then (p.1, x) else p
theorem set_keys {c : Str} {x : α} {l : AL α} : (setS l c x).map (·.1) = l.map (·.1) := by
  unfold setS
  rw [List.map_map]
  refine List.map_congr_left fun p _ => ?_
  show (if p.1 = c then (p.1, x) else p).1 = p.1
  split <;> rfl
theorem fnd_set {c d : Str} {x : α} {l : AL α} (h : d ∈ l.map (·.1)) : fnd c (setS l d x) = if c = d then some x else fnd c l := by
  unfold setS
  rw [fnd_map]
  by_cases e : c = d
  · rw [if_pos e, if_pos e, e]
    obtain ⟨y, ey⟩ := Option.isSome_iff_exists.mp (fnd_isSome.mpr h)
    rw [ey]; rfl
  · rw [if_neg e, if_neg e]
theorem set_same {c : Str} {x : α} {l : AL α} (u : Up (l.map (·.1))) (h : fnd c l = some x) : setS l c x = l :=
  al_ext (by rw [set_keys]; exact u) u fun d => by
    rw [fnd_set (fnd_key h)]
    by_cases e : d = c
    · rw [if_pos e, e, h]
    · rw [if_neg e]
theorem sort_same {l : AL α} (u : Up (l.map (·.1))) : sortS l = l := al_perm (sort_up (up_nodup u)) u (sort_perm l)
theorem set_set {c : Str} {x y : α} {l : AL α} : setS (setS l c x) c y = setS l c y := by
  unfold setS
  rw [List.map_map]
  refine List.map_congr_left fun p _ => ?_
  by_cases e : p.1 = c
  · simp [e]
  · simp [e]
theorem put_in {c : Str} {x : α} {l : AL α} (h : c ∈ l.map (·.1)) : putS l c x = setS l c x := by
  unfold putS setS
  rw [any_fnd, if_pos (fnd_isSome.mpr h)]
end
/-- the schema behind a change -/
def schAfter (sch : Sch) (rs : List Row) : Sch := sortS (mergeS sch (rs.map fun r => (r.c, r.fm)))
theorem after_one {sch : Sch} {r : Row} (u : Up (sch.map (·.1))) (h : r.c ∈ sch.map (·.1)) : schAfter sch [r] = setS sch r.c r.fm := by
  unfold schAfter
  show sortS (putS sch r.c r.fm) = _
  rw [put_in h]
  exact sort_same (by rw [set_keys]; exact u)
end Lf
set_option maxHeartbeats 4000000
/-! K10: schema_after. -/
namespace Lf
open PySem PySem.Spec L2
open PyProof.Rows hiding St
abbrev kf {α : Type} (f : α → PyData) (p : Str × α) : Key × PyData := (Sum.inr p.1, f p.2)
theorem putA_kf {α : Type} {f : α → PyData} {c : Str} {x : α} {l : AL α} : putA (l.map (kf f)) (.inr c) (f x) = (putS l c x).map (kf f) := by
  unfold putA putS
  have e : ((l.map (kf f)).any fun p => decide (p.1 = Sum.inr c)) = l.any fun p => decide (p.1 = c) := by
    rw [List.any_map]
    congr 1
    funext p
    show decide (Sum.inr p.1 = (Sum.inr c : Key)) = decide (p.1 = c)
    by_cases z : p.1 = c
    · rw [decide_eq_true z, decide_eq_true (by rw [z])]
    · rw [decide_eq_false z, decide_eq_false (fun y => z (Sum.inr.inj y))]
  rw [e]
  split
  · rw [List.map_map, List.map_map]
    refine List.map_congr_left fun p _ => ?_
    show (if (Sum.inr p.1 : Key) = Sum.inr c then ((Sum.inr p.1 : Key), f x) else kf f p) = kf f (if p.1 = c then (p.1, x) else p)
    by_cases z : p.1 = c
    · rw [if_pos z, if_pos (by rw [z])]
    · rw [if_neg z, if_neg (fun y => z (Sum.inr.inj y))]
  · rw [List.map_append]
    rfl
theorem dicR_merge {α : Type} {f : α → PyData} {K : Fg} {H : Hp} : ∀ {m l : AL α} {kvs more : List (Key × V)}, DicR K H kvs (l.map (kf f)) → DicR K H more (m.map (kf f)) → DicR K H (mergeK kvs more) ((mergeS l m).map (kf f))
  | [], l, kvs, more, h, h2 => by
    cases h2
    exact h
  | p :: m, l, kvs, more, h, h2 => by
    cases h2 with
    | cons h1 t =>
      rename_i q r
      have e := dicR_put (k := Sum.inr p.1) h h1.2
      rw [putA_kf] at e
      show DicR K H (mergeK (putK kvs q.1 q.2) r) ((mergeS (putS l p.1 p.2) m).map (kf f))
      rw [show q.1 = Sum.inr p.1 from h1.1]
      exact dicR_merge e t
theorem g3t {K : Fg} {σ : St} {H : Hp} {i j k : Nat} {v : V} {d1 d2 d3 : PyData} {Q : St → Hp → Prop} (h : Dp K H v (.tuple [d1, d2, d3])) (q : ∀ v1 v2 v3, Dp K H v1 d1 → Dp K H v2 d2 → Dp K H v3 d3 → Q (((σ.set i (some v1)).set j (some v2)).set k (some v3)) H) :
    gTup K 3 (gCons (gName i) (gCons (gName j) (gCons (gName k) gNil))) v σ H Q := g3 h q
theorem de_dictN {X : Cx} {σ : St} {H : Hp} {e : Expr} {pos p : Pos} {α : Type} {l : List (Str × α)} {f : α → PyData} (hc : X.calm = true) (hg : Gl X "dict") (hm : X.mg "dict" = none) (ha : PE X e (tG Ex σ H (IsFz X.K (l.map fun p => .tuple [.str p.1, f p.2])))) (nd : (l.map (·.1)).Nodup) (he : starEach [e] X.env = (false, eval e X.env) :: starEach [] X.env := by rfl) :
    PE X (.Call (.Name "dict" p) [e] [] pos) (tG Ex σ H (DicN X.K H (l.map fun p => (Sum.inr p.1, f p.2)))) :=
  de_ct rlEx (call_dictF hc) hg hm (by decide +kernel) (da_cons rlEx (mo_fz rlEx) ha (da_nil rlEx) he) (fun vs H1 h1 q Q k => by
    obtain ⟨v, rfl, a, o, xs, rfl, h, hd, hall⟩ := all1 q
    obtain ⟨ps, kvs, rfl, e2, e3⟩ := pair_refs hall
    refine ⟨a, o, ps, kvs, rfl, h, hd, e2, fun z hz => k _ _ (Ex.new hz) ⟨z, _, rfl, Ex.back h1 hz, upd_same, ?_⟩⟩
    have ndk : ((([] : List (Key × V)) ++ kvs).map (·.1)).Nodup := by
      rw [List.nil_append, dicR_keys e3, List.map_map]
      have e : (l.map ((fun x : Key × PyData => x.1) ∘ fun p : Str × α => ((Sum.inr p.1 : Key), f p.2))) = (l.map (·.1)).map Sum.inr := by rw [List.map_map]; rfl
      rw [e]
      exact List.Pairwise.map _ (fun a b h e => h (Sum.inr.inj e)) nd
    rw [mergeK_nodup ndk]
    exact e3.mono rlEx (Ex.new hz)) (he := he)
section
variable {P : Program} {w : World} {K : Fg} {mg : Str → Option Value} {base : Heap}
def rowForms (rs : List Row) : AL Form := rs.map fun r => (r.c, r.fm)
theorem sch_names_after {sch : Sch} {rs : List Row} (h : (sch.map (·.1)).Nodup) : ((mergeS sch (rowForms rs)).map (·.1)).Nodup := merge_nodup h
theorem merge_len {α : Type} : ∀ {m l : AL α}, (mergeS l m).length ≤ l.length + m.length
  | [], l => by exact Nat.le_refl _
  | p :: m, l => by
    show (mergeS (putS l p.1 p.2) m).length ≤ l.length + (m.length + 1)
    have h1 := merge_len (m := m) (l := putS l p.1 p.2)
    have h2 : (putS l p.1 p.2).length ≤ l.length + 1 := by
      have e := congrArg List.length (put_keys (d := p.1) (x := p.2) (l := l))
      rw [List.length_map] at e
      rw [e]
      split
      · rw [List.length_map]; omega
      · rw [List.length_append, List.length_map]; exact Nat.le_refl _
    omega
abbrev spAfter (K : Fg) : Sp := spT (fun _ => Ex) (fun x : Sch × List Row => rowsIn x.1 x.2 ∧ x.1.length < 1000) (fun x => [Hs K x.1, Hd K (dRows x.2)]) (fun x => Hs K (schAfter x.1 x.2))
theorem f_schema_after (T : Tx K mg) : Fnc P w K mg base 2 "schema_after" (spAfter K) := by
  refine ⟨T.g_schema_after, fna_of T.d_schema_after sc_schema_after bn_schema_after (fun _ => rfl) fun cdv A0 outer s H E x vs Q hr ok ha hQ => ?_⟩
  obtain ⟨sch, rs⟩ := x
  obtain ⟨v, u, rfl, h1, h2⟩ := all2 ha
  obtain ⟨⟨o1, o2, o3, o4⟩, o5⟩ := ok
  have o5 : sch.length < 1000 := o5
  have o4 : rs.length < 1000 := o4
  have big : 10000 ≤ sizeLine := by decide
  have h1 : IsFz K (sch.map fun p => .tuple [.str p.1, dForm p.2]) v H := h1
  have h2 : Dp K H u (.tuple (rs.map dRow)) := h2
  refine bs_set (i := 2) rlEx sc_schema_after.nd rfl (.inl rfl) (de_dictN rfl rfl T.z_dict (vf 0 h1 (Ex.rfl' _)) o1) fun kv H1 e1 hk => ?_
  obtain ⟨a, kvs, rfl, ha0, hl, dr⟩ := hk
  refine bs_update (i := 2) (kds := (rowForms rs).map (kf dForm)) rfl rfl (.inl rfl) hl (by rw [dicR_length dr, List.length_map, List.length_map]; unfold rowForms; rw [List.length_map]; omega) (fun od => ?_) fun more H2 e2 dm => ?_
  · refine de_imp (φ := IsDic K ((rs.filter fun _ => true).map fun r : Row => ((Sum.inr r.c : Key), dForm r.fm))) ?_ (fun w H' _ h => by
      unfold rowForms
      rw [List.map_map]
      rw [List.filter_eq_self.mpr (fun _ _ => rfl)] at h
      exact h) rlEx
    have ex0 : ∀ od, RN a H (upd H1 a (.frz od (.dK kvs))) := fun od b o hb c => by
      by_cases z : b = a
      · subst z
        rw [e1 _ _ hb] at hl
        cases hl
        exact absurd (c.resolve_left (fun z => z rfl)) (fun z => z.1 _ rfl)
      · rw [upd_ne z]
        exact e1 _ _ hb
    exact de_dc (own := [("cls", 3), ("form", 4), ("expressions", 5)]) (g := gTup K 3 (gCons (gName 3) (gCons (gName 4) (gCons (gName 5) gNil)))) (bo := fun _ : Row => true) (ky := fun r : Row => Sum.inr r.c) (eo := fun r : Row => dForm r.fm) rfl sc_schema_after.nd (blkOk_by (N := ["schema", "change", "known", "cls", "form", "expressions"]) (sc := defScope s_schema_after) (by decide +kernel))
      (src_tup (src := rs) (f := dRow) rlEx (de_var (i := 1) rlEx rfl (mo_d rlEx) ((rlRN a).dp (ex0 od) h2) rfl (.inl rfl))) (by omega) (fun r _ => nol_form r.fm) (by
        rw [List.filter_eq_self.mpr (fun _ _ => rfl)]
        have z := up_nodup (up_rising.mp o2)
        have e : (rs.map fun r : Row => (Sum.inr r.c : Key)) = (rs.map (·.c)).map Sum.inr := by rw [List.map_map]; rfl
        rw [e]
        exact List.Pairwise.map _ (fun a b h e => h (Sum.inr.inj e)) z)
      (fun _ _ _ _ _ => pg_tup (X := _) rfl (pgs_cons (pg_name (i := 3) sc_schema_after.nd rfl (.inl rfl)) (pgs_cons (pg_name (i := 4) sc_schema_after.nd rfl (.inl rfl)) (pgs_cons (pg_name (i := 5) sc_schema_after.nd rfl (.inl rfl)) pgs_nil)))) gm_3
      fun r y H' _ _ hy => g3t hy fun v1 v2 v3 p1 p2 p3 => ⟨rfl, Ex.rfl' _, fun _ _ _ _ _ => dts_nil rlEx rfl, fun _ H3 e3 => ⟨fun _ _ _ _ _ => de_imp (vd 3 (rlEx.dp e3 p1)) (fun _ _ _ h => dp_str h) rlEx, fun H4 e4 _ _ _ _ _ => vd 4 (rlEx.dp e4 p2)⟩⟩
  · have dr2 := dicR_merge (f := dForm) (m := rowForms rs) (dr.mono rlEx e2) dm
    have hl2 := e2 _ _ hl
    have dr3 : DicR K (upd H2 a (.dK (mergeK kvs more))) (mergeK kvs more) ((mergeS sch (rowForms rs)).map (kf dForm)) := dicR_upd (no_tup hl2 (fun _ q => by cases q) (fun _ _ q => by cases q)) dr2 fun q hq => by
      obtain ⟨p, _, rfl⟩ := List.mem_map.mp hq
      exact nol_form p.2
    have rn : Ex H (upd H2 a (.dK (mergeK kvs more))) := Ex.mut (e1.tr e2) ha0
    refine bs_ret (φ := Hs K (schAfter sch rs)) (de_tupleF rlEx rfl T.z_tuple ?_) rlEx fun v' H4 e4 q => hQ v' H4 (rn.tr e4) q
    refine de_is (d := .list ((schAfter sch rs).map fun p => .tuple [.str p.1, dForm p.2])) ?_ rfl
    refine de_sortedIt (l := mergeS sch (rowForms rs)) ?_ ?_ T.z_sorted (de_items (vdc 2 ⟨a, _, rfl, upd_same, dr3⟩ (Ex.rfl' _))) (merge_nodup o1) fun zs h s => sort_un (merge_nodup o1) h s
    · rfl
    · rfl
end
end Lf
set_option maxHeartbeats 4000000
/-! Lay11: x, *y = t; readings that end by a wider relation. -/
namespace Lf
open PySem PySem.Spec L2
open PyProof.Rows hiding St
section
variable {prog : Program} {w : World} {A : Around} {E : Value → Shared → Prop} {s : Shared} {env : Env}
/-- first of a tuple, the rest as a list: all that stood stands -/
theorem star_first {l : Addr} {u : Value} {us : List Value} {Q : List Value → Shared → Prop} (hl : IsTup s.heap l (u :: us).toArray) (hh : A.handled = none) (hz : us.length ≤ 10000)
    (h : ∀ (h' : Heap) (tk : Nat), (∀ b o, s.heap.get? b = some o → h'.get? b = some o) → Q [u, .ref h'.objs.size] { s with heap := h'.push { cls := .type "list", data := .seq us.toArray }, toks := tk }) :
    wpAny (model prog w) A (unpackItems (.ref l) 2 (some 1)) Q E s := by
  have far : l < s.heap.objs.size := let ⟨_, ho, _⟩ := hl; Heap.lt_size ho
  have ne : l ≠ s.heap.objs.size := Nat.ne_of_lt far
  have sz : (u :: us).toArray.size = us.length + 1 := by rw [List.size_toArray, List.length_cons]
  unfold unpackItems
  refine wpAny_bind ?_
  unfold notIterableAtAll
  refine wpAny_bind (wpAny_specialOf hl.typeIs slot_tuple_iter.lookup (wpAny_pure ?_))
  simp only [Bool.false_eq_true, if_false]
  refine wpAny_bind (wpAny_holding (iter_tuple hl ?_))
  refine wpAny_bind (wpAny_holding (draw_tuple ne 1 0 _ _ ⟨_, Heap.get?_push_size _ rfl, rfl, rfl⟩ (hl.push _) (by omega) fun h₁ at₁ sb₁ => ?_))
  have tup₁ : IsTup h₁ l (u :: us).toArray := (hl.push _).extBut sb₁.extBut ne
  rw [Nat.zero_add] at at₁
  have kp₁ : ∀ b o, s.heap.get? b = some o → h₁.get? b = some o := fun b o e => sb₁.extBut b o (Nat.ne_of_lt (Heap.lt_size e)) (Heap.get?_push_of_some _ e)
  obtain ⟨oi, hoi, ri⟩ := id at₁
  obtain ⟨ot, hot, _⟩ := id tup₁
  have hd1 : (List.drop 0 (u :: us).toArray.toList).take 1 = [u] := rfl
  rw [hd1, if_neg (show ¬ ([u] : List Value).length < 1 from Nat.lt_irrefl 1)]
  refine wpAny_bind (wpAny_holding (PySem.W.kun_collect (s := { s with heap := h₁ }) (T := "tuple_iterator") (.inr (.inr (.inr rfl))) (Walks.tuple (A := A.in1) hh s.heap.objs.size l ne (u :: us).toArray) (fun j v st => st.1.typeIs) (k := 1) (by omega) ⟨at₁, tup₁⟩ (Heap.lt_size hoi) (Heap.lt_size hot) (fun h₂ tk kp₂ => ?_) (by rw [sizeLine_eq]; omega)))
  have hd2 : (u :: us).toArray.toList.drop 1 = us := rfl
  rw [hd2]
  show wpAny _ _ (if us.length < 0 then _ else _) _ _ _
  rw [if_neg (by omega)]
  show wpAny _ _ (newList (us.take (us.length - 0)) >>= fun d => pure ([u] ++ [d] ++ us.drop (us.length - 0))) _ _ _
  rw [Nat.sub_zero, List.take_length, List.drop_length]
  have kp : ∀ b o, s.heap.get? b = some o → h₂.get? b = some o := fun b o e => kp₂ b o (Nat.ne_of_lt (Heap.lt_size e)) (kp₁ b o e)
  refine wpAny_bind (wpAny_newList (wpAny_pure (h h₂ tk kp)) (by rw [sizeLine_eq]; omega))
end
/-- x, *y as places -/
def gStar (K : Fg) (i j : Nat) : TG := fun v σ H Q => ∃ a y ys, v = .ref a ∧ SqT K H a (y :: ys) ∧ ys.length ≤ 10000 ∧ ∀ l, H l = none → Q ((σ.set i (some y)).set j (some (.ref l))) (upd H l (.lst ys))
section
variable {X : Cx} {R : Rel} {σ : St} {H : Hp} {D : Ends} {a b e : Expr} {rest : List Stmt} {pos p p2 p3 : Pos} {φ ψ : Pv}
theorem pg_star {i j k : Nat} {x y : Str} {g1 g2 : TG} (hc : X.calm = true) (h1 : PG X (.Name x p) (gName i)) (h2 : PG X (.Name y p2) (gName j))
    (ha : ∀ us, assignInOrder ((assignEach [.Name x p, .Starred (.Name y p2) p3] X.env).map (·.2)) us = assignInOrder [assign (.Name x p) X.env, assign (.Name y p2) X.env] us := by intro _; rfl)
    (hn : (assignEach [.Name x p, .Starred (.Name y p2) p3] X.env).length = 2 := by rfl) (hst : (assignEach [.Name x p, .Starred (.Name y p2) p3] X.env).findIdx? (·.1) = some 1 := by rfl) :
    PG X (.Tuple [.Name x p, .Starred (.Name y p2) p3] k pos) (gStar X.K i j) := by
  refine ⟨fun pins s σ H v u Q I r hw => ?_⟩
  obtain ⟨a, z, zs, rfl, hq, hz, hw⟩ := hw
  cases r
  obtain ⟨its, rv, ht, hl⟩ := I.tuple hq
  obtain ⟨u, us, rfl, ru, rus⟩ : ∃ u us, its = u :: us ∧ RelV z u ∧ Vals zs us := by
    cases rv with
    | cons h t => exact ⟨_, _, rfl, h, t⟩
  rw [assign_Tuple]
  refine wpAny_bind (wpAny_standAt ?_)
  unfold unpack
  rw [hn, hst]
  refine wpAny_bind (wpAny_holding (star_first (s := s) ht (I.ok.hd hc) (by rw [← rus.length]; exact hz) fun h' tk kp => ?_))
  rw [ha]
  have J : Inv X pins σ H { s with heap := h', toks := tk } := I.kept (t' := tk) kp
  have hf : H h'.objs.size = none := J.hok.fresh (Nat.le_refl _)
  have at_ : (h'.push { cls := .type "list", data := .seq us.toArray }).get? h'.objs.size = some { cls := .type "list", data := .seq us.toArray } := Heap.get?_push_size _ rfl
  have J2 : Inv X pins σ (upd H h'.objs.size (.lst zs)) { s with heap := h'.push { cls := .type "list", data := .seq us.toArray }, toks := tk } :=
    J.laid (t' := tk) (fun b o e => Heap.get?_push_of_some _ e) (Nat.le_refl _) ⟨Nat.le_trans hz (by rw [sizeLine_eq]; omega), us, 0, rus, at_⟩
  refine assignInOrder_cons (thn (h1.run pins _ σ _ _ _ (fun σ1 H1 => σ1 = σ.set i (some z) ∧ H1 = upd H h'.objs.size (.lst zs)) J2 ru ⟨rfl, rfl⟩) fun _ s1 ⟨σ1, H1, I1, e1, e2⟩ => ?_)
  subst e1 e2
  refine assignInOrder_cons (thn (h2.run pins s1 _ _ (.ref h'.objs.size) _ (fun σ1 H1 => Q σ1 H1) I1 rfl (hw _ hf)) fun _ s2 ⟨σ2, H2, I2, q2⟩ => ?_)
  exact assignInOrder_nil ⟨σ2, H2, I2, q2⟩
end
end Lf
set_option maxHeartbeats 4000000
/-! Lay12: instances; readings that begin by Ex and end by R. -/
namespace Lf
open PySem PySem.Spec L2
open PyProof.Rows hiding St
def tX (R : Rel) (σ0 : St) (H0 : Hp) (φ : Pv) : TE := fun σ H Q => σ = σ0 ∧ Ex H0 H ∧ ∀ v H', R H H' → φ v H' → Q v H'
/-- all but the thing at a stands -/
def RO (a : Addr) : Rel := fun H H' => ∀ b o, b ≠ a → H b = some o → H' b = some o
theorem RO.of {a : Addr} {H H' : Hp} (x : Ex H H') : RO a H H' := fun b o _ h => x b o h
theorem RO.tr {a : Addr} {H H' H'' : Hp} (x : RO a H H') (y : RO a H' H'') : RO a H H'' := fun b o n h => y b o n (x b o n h)
theorem RO.upd {a : Addr} {H : Hp} {o : HO} : RO a H (upd H a o) := fun b u n h => by rw [upd_ne n]; exact h
theorem RO.ex {a : Addr} {H0 H H' : Hp} (e : Ex H0 H) (n : H0 a = none) (x : RO a H H') : Ex H0 H' := fun b o h => x b o (fun z => by rw [z, n] at h; cases h) (e b o h)
theorem dp_ro {K : Fg} {a : Addr} {H H' : Hp} {d : PyData} {v : V} (x : RO a H H') (nt : ∀ xs, ¬ Rd H a (.tup xs)) (nl : ∀ xs, ¬ Rd H a (.lst xs)) (h : Dp K H v d) : Dp K H' v d :=
  dp_map (fun c xs r => by
    have ne : c ≠ a := fun e => nt xs (e ▸ r)
    exact r.imp (x c _ ne) fun ⟨o, z⟩ => ⟨o, x c _ ne z⟩) (fun c xs r => by
    have ne : c ≠ a := fun e => nl xs (e ▸ r)
    exact r.imp (x c _ ne) fun ⟨o, z⟩ => ⟨o, x c _ ne z⟩) h
theorem no_rd {a : Addr} {H : Hp} {o u : HO} (h : H a = some o) (n1 : o ≠ u) (n2 : ∀ z, o ≠ .frz z u) : ¬ Rd H a u := fun r => by
  rcases r with r | ⟨z, r⟩
  · rw [h] at r; exact n1 (Option.some.inj r)
  · rw [h] at r; exact n2 z (Option.some.inj r)
def IsIns (C : Addr) (fs : List (Str × V)) : Pv := fun v H => ∃ a dx, v = .ref a ∧ H a = some (.ins C dx fs)
theorem mo_ins {R : Rel} (r : Rl R) {C : Addr} {fs : List (Str × V)} : Mo R (IsIns C fs) := fun v H H' x ⟨a, dx, e, h⟩ => ⟨a, dx, e, r.keep x h ⟨(fun _ z => by cases z), fun _ z => by cases z⟩⟩
section
variable {X : Cx} {R : Rel} {σ : St} {H : Hp} {D : Ends} {o a b e value : Expr} {es : List Expr} {rest : List Stmt} {pos pos' p apos : Pos} {φ ψ χ : Pv} {j : Nat} {C : Addr} {fs : List (Str × V)} {f m nm : Str}
theorem dx_of (r : Rl R) (h : PE X e (tG Ex σ H φ)) : PE X e (tX R σ H φ) := PE.imp h fun _ _ _ ⟨e1, h1, k⟩ => ⟨e1, h1, fun v H' h2 q => k v H' (r.ex h2) q⟩
theorem dx_at (h : PE X e (tX R σ H φ)) {H' : Hp} (x : Ex H H') : PE X e (tX R σ H' φ) := PE.imp h fun _ _ _ ⟨e1, h1, k⟩ => ⟨e1, Ex.tr x h1, k⟩
theorem dx_if {t : Expr} {c : Bool} (h : PT X t (tT Ex σ H c)) (ha : c = true → PE X a (tX R σ H φ)) (hb : c = false → PE X b (tX R σ H φ)) (r : Rl R) : PE X (.IfExp t a b pos) (tX R σ H φ) :=
  PE.imp (pe_ifExp h (PE.lift ha) (PE.lift hb)) fun _ _ _ ⟨e1, h1, k⟩ => ⟨e1, h1, fun H2 h2 => by
    cases c with
    | true => exact ⟨rfl, e1, Ex.tr h1 h2, fun v H3 h3 => k v H3 (r.trans (r.ex h2) h3)⟩
    | false => exact ⟨rfl, e1, Ex.tr h1 h2, fun v H3 h3 => k v H3 (r.trans (r.ex h2) h3)⟩⟩
theorem bs_retX (h : PE X e (tX R σ H φ)) (k : ∀ v H', R H H' → φ v H' → D.rt v H') : PSs X (.Return (some e) pos :: rest) (tAt σ H D) :=
  bs_seq (ps_ret h) ⟨rfl, Ex.rfl' _, k⟩
theorem bs_setX {i : Nat} {x : Str} {p' : Pos} (hN : X.N.Nodup) (hi : X.N[i]? = some x) (hx : Loc X.env.scope x) (h : PE X e (tX R σ H φ)) (k : ∀ v H', R H H' → φ v H' → PSs X rest (tAt (σ.set i (some v)) H' D))
    (hs : swapsWith e (some (.Name x p')) pos.line X.env = pure false := by rfl) (hf : X.fn x = true ∨ X.env.scope.names.lookup x = some .local := by first | exact .inl rfl | exact .inr rfl) : PSs X (.Assign [.Name x p'] e pos :: rest) (tAt σ H D) :=
  bs_seq (ps_set (i := i) hN hi hx h hs hf) ⟨rfl, Ex.rfl' _, k⟩
/-! attributes -/
theorem de_fld {v : V} (r : Rl R) (he : PE X e (tG R σ H (IsIns C fs))) (c : Cls X.K C) (n : NoAttr X.K C f) (l : fs.lookup f = some v) (hb : attributeBase e f X.env (eval e X.env) = eval e X.env := by rfl) : PE X (.Attribute e f pos) (tG R σ H (Hv v)) :=
  PE.imp (pe_fld he hb) fun _ _ _ ⟨e1, h1, k⟩ => ⟨e1, h1, fun x H2 h2 ⟨a, dx, ea, ha⟩ => ⟨a, C, dx, fs, v, ea, ha, c, n, l, k v H2 h2 rfl⟩⟩
/-- self.f = e -/
theorem bs_fld {a0 : Addr} (hv : PE X value (tG Ex σ H φ)) (m : Mo Ex φ) (ho : PE X o (tG Ex σ H (Hv (.ref a0)))) {dx : Addr} (ha : H a0 = some (.ins C dx fs)) (c : Cls X.K C) (n : NoAttr X.K C f) (hl : fs.length < 1000)
    (k : ∀ v H', Ex H H' → φ v H' → PSs X rest (tAt σ (upd H' a0 (.ins C dx (putF f v fs))) D)) (hs : swapsWith value (some (.Attribute o f pos')) pos.line X.env = pure false := by rfl) : PSs X (.Assign [.Attribute o f pos'] value pos :: rest) (tAt σ H D) :=
  bs_seq (ps_fld ho hv hs) ⟨rfl, Ex.rfl' _, fun y H1 h1 q => ⟨rfl, h1, fun x H2 h2 ex => ⟨a0, C, dx, fs, ex, h2 _ _ (h1 _ _ ha), c, n, hl, k y H2 (Ex.tr h1 h2) (m _ _ _ h2 q)⟩⟩⟩
/-! methods -/
variable {τ : Type} {R' : τ → Rel} {Pre : τ → Prop} {A : τ → List Pv} {B : τ → Pv} {k : Nat} {g : Addr}
/-- o.m(e, ..): the receiver is the first argument -/
theorem dx_meth {pl : Sem Bool} (c : Fna X.prog X.w X.K X.mg X.base k g (spT R' Pre A B)) (x : τ) (hr : Room j X.A) (hk : k ≤ j) (pre : Pre x) (he : PE X o (tG Ex σ H χ)) (mχ : Mo Ex χ) (i : ∀ v H', χ v H' → IsIns C fs v H') (hc : Cls X.K C) (hm : Meth X.K C m g) (hl : fs.lookup m = none)
    {φs : List Pv} (ha : PA X (e :: es) (tA Ex σ H φs)) (hA : ∀ v vs H', Ex H H' → χ v H' → All2 φs vs H' → All2 (A x) (v :: vs) H') (r : Rl (R' x))
    (hst : starEach (e :: es) X.env = (false, eval e X.env) :: starEach es X.env := by rfl) (hpl : (backTo pos (starEach es X.env)).any (·.1) = false := by rfl)
    (ht : eval (.Call (.Attribute o m apos) (e :: es) [] pos) X.env = (do
      let ov ← eval o X.env
      standAt apos.atName
      let (f, first) ← holding [ov] (getMethod ov m pl)
      callWith pos f first (backTo pos (starEach (e :: es) X.env)) (backToKw pos (keywordEach [] X.env))) := by rfl) :
    PE X (.Call (.Attribute o m apos) (e :: es) [] pos) (tX (R' x) σ H (B x)) := by
  obtain ⟨fd, ps, F, kp, bd⟩ := c.ex
  refine PE.imp (pe_meth (pl := pl) he hc hm F (hr.mono hk) bd .nil pass0 ha hst hpl ht) fun _ _ _ ⟨e1, h1, kk⟩ => ⟨e1, h1, fun v H2 h2 q => ?_⟩
  obtain ⟨a, dx, ev, hv⟩ := i _ _ q
  refine ⟨a, dx, fs, ev, hv, hl, e1, Ex.tr h1 h2, fun vs H3 h3 qs => ?_⟩
  show spT R' Pre A B (v :: (vs ++ [])) H3 _ E0
  rw [List.append_nil]
  exact ⟨x, pre, hA v vs H3 (Ex.tr (Ex.tr h1 h2) h3) (mχ _ _ _ h3 q) qs, fun u H4 h4 bq => kk u H4 (r.trans (r.ex (Ex.tr h2 h3)) h4) bq⟩
theorem dx_meth0 {pl : Sem Bool} (c : Fna X.prog X.w X.K X.mg X.base k g (spT R' Pre A B)) (x : τ) (hr : Room j X.A) (hk : k ≤ j) (pre : Pre x) (he : PE X o (tG Ex σ H χ)) (i : ∀ v H', χ v H' → IsIns C fs v H') (hc : Cls X.K C) (hm : Meth X.K C m g) (hl : fs.lookup m = none)
    (hA : ∀ v H', Ex H H' → χ v H' → All2 (A x) [v] H') (r : Rl (R' x))
    (ht : eval (.Call (.Attribute o m apos) [] [] pos) X.env = (do
      let ov ← eval o X.env
      standAt apos.atName
      let (f, first) ← holding [ov] (getMethod ov m pl)
      callWith pos f first (backTo pos (starEach [] X.env)) (backToKw pos (keywordEach [] X.env))) := by rfl) :
    PE X (.Call (.Attribute o m apos) [] [] pos) (tX (R' x) σ H (B x)) := by
  obtain ⟨fd, ps, F, kp, bd⟩ := c.ex
  refine PE.imp (pe_meth0 (pl := pl) he hc hm F (hr.mono hk) bd .nil pass0 ht) fun _ _ _ ⟨e1, h1, kk⟩ => ⟨e1, h1, fun v H2 h2 q => ?_⟩
  obtain ⟨a, dx, ev, hv⟩ := i _ _ q
  refine ⟨a, dx, fs, ev, hv, hl, ?_⟩
  exact ⟨x, pre, hA v H2 (Ex.tr h1 h2) q, fun u H4 h4 bq => kk u H4 (r.trans (r.ex h2) h4) bq⟩
def tE (σ0 : St) (H0 : Hp) (φ : Pv) : TE := fun σ H Q => σ = σ0 ∧ H = H0 ∧ ∀ v H', Ex H0 H' → φ v H' → Q v H'
theorem de_exact (h : ∀ H1, Ex H H1 → PE X e (tE σ H1 φ)) : PE X e (tG Ex σ H φ) :=
  PE.imp (PE.any fun (p : {H1 : Hp // Ex H H1}) => h p.1 p.2) fun σ' H' _ ⟨e1, h1, k⟩ => ⟨⟨H', h1⟩, e1, rfl, k⟩
/-- o.m(e, ..), o made on the spot -/
theorem dx_methN {pl : Sem Bool} (c : Fna X.prog X.w X.K X.mg X.base k g (spT R' Pre A B)) (hr : Room j X.A) (hk : k ≤ j) (he : PE X o (tG Ex σ H χ)) (hc : Cls X.K C) (hm : Meth X.K C m g) {φs : List Pv} (ha : ∀ H1, Ex H H1 → PA X (e :: es) (tA Ex σ H1 φs))
    (i : ∀ v H', Ex H H' → χ v H' → ∃ fs x, IsIns C fs v H' ∧ fs.lookup m = none ∧ Pre x ∧ (∀ vs H'', Ex H' H'' → All2 φs vs H'' → All2 (A x) (v :: vs) H'') ∧ ∀ H'' u H4, Ex H' H'' → R' x H'' H4 → B x u H4 → Ex H H4 ∧ ψ u H4)
    (hst : starEach (e :: es) X.env = (false, eval e X.env) :: starEach es X.env := by rfl) (hpl : (backTo pos (starEach es X.env)).any (·.1) = false := by rfl)
    (ht : eval (.Call (.Attribute o m apos) (e :: es) [] pos) X.env = (do
      let ov ← eval o X.env
      standAt apos.atName
      let (f, first) ← holding [ov] (getMethod ov m pl)
      callWith pos f first (backTo pos (starEach (e :: es) X.env)) (backToKw pos (keywordEach [] X.env))) := by rfl) :
    PE X (.Call (.Attribute o m apos) (e :: es) [] pos) (tE σ H ψ) := by
  obtain ⟨fd, ps, F, kp, bd⟩ := c.ex
  have ha' : PA X (e :: es) (fun σ' H' Q => ∃ H1 : {H1 : Hp // Ex H H1}, tA Ex σ H1.1 φs σ' H' Q) := ⟨fun pos pins s σ' H' Q I ⟨H1, q⟩ => (ha H1.1 H1.2).run pos pins s σ' H' Q I q⟩
  refine PE.imp (pe_meth (pl := pl) he hc hm F (hr.mono hk) bd .nil pass0 ha' hst hpl ht) fun _ _ _ ⟨e1, h1, kk⟩ => ⟨e1, by rw [h1]; exact Ex.rfl' _, fun v H2 h2 q => ?_⟩
  subst e1 h1
  obtain ⟨fs, x, ⟨a, dx, ev, hv⟩, hl, pre, hA, hB⟩ := i v H2 h2 q
  refine ⟨a, dx, fs, ev, hv, hl, ⟨H2, h2⟩, rfl, Ex.rfl' _, fun vs H3 h3 qs => ?_⟩
  show spT R' Pre A B (v :: (vs ++ [])) H3 _ E0
  rw [List.append_nil]
  exact ⟨x, pre, hA vs H3 h3 qs, fun u H4 h4 bq => by
    obtain ⟨x1, x2⟩ := hB H3 u H4 h3 h4 bq
    exact kk u H4 x1 x2⟩
/-- e.f, a property -/
theorem dx_prop {pa : Addr} (c : Fna X.prog X.w X.K X.mg X.base k g (spT R' Pre A B)) (x : τ) (hr : Room j X.A) (hk : k + 1 ≤ j) (pre : Pre x) (he : PE X e (tG Ex σ H χ)) (i : ∀ v H', χ v H' → IsIns C fs v H') (hc : Cls X.K C) (hp : PropOf X.K C f pa g)
    (hA : ∀ v H', Ex H H' → χ v H' → All2 (A x) [v] H') (r : Rl (R' x)) (hb : attributeBase e f X.env (eval e X.env) = eval e X.env := by rfl) : PE X (.Attribute e f pos) (tX (R' x) σ H (B x)) := by
  obtain ⟨fd, ps, F, kp, bd⟩ := c.ex
  refine ⟨fun pins s σ' H' Q I ⟨e1, h1, kk⟩ => ?_⟩
  subst e1
  refine attr_of hb (thn (he.run pins s σ' H' (fun v H2 => χ v H2 ∧ Ex H' H2) I ⟨rfl, h1, fun v H2 h2 q => ⟨q, h2⟩⟩) fun u s1 ⟨v, H2, I1, rv, q, h2⟩ => ?_)
  obtain ⟨a, dx, ev, hv⟩ := i _ _ q
  subst ev
  cases rv
  exact getprop_ok I1 hv hc hp F (hr.mono hk) bd .nil pass0 ⟨x, pre, hA _ H2 (Ex.tr h1 h2) q, fun w H3 h3 bq => kk w H3 (r.trans (r.ex h2) h3) bq⟩
/-- C(e, ..) -/
theorem de_make {φs : List Pv} (M : Mk X.K C g) (c : Fna X.prog X.w X.K X.mg X.base k g (spT R' Pre A B)) (x : Addr → Hp → τ) (hr : Room j X.A) (hk : k + 1 ≤ j) (hg : Gl X nm) (hm : X.mg nm = some (.ref C)) (ha : PA X (e :: es) (tA Ex σ H φs))
    (hA : ∀ a dx vs H1, Ex H H1 → All2 φs vs H1 → H1 a = none → H1 dx = none → dx ≠ a → ∀ H2, H2 = upd (upd H1 dx (.own a)) a (.ins C dx []) → Pre (x a H2) ∧ All2 (A (x a H2)) (.ref a :: vs) H2 ∧
      ∀ v H3, R' (x a H2) H2 H3 → B (x a H2) v H3 → v = .non ∧ Ex H1 H3 ∧ φ (.ref a) H3)
    (hdb : (nm == ("__debug__" : Str)) = false := by decide) (he : starEach (e :: es) X.env = (false, eval e X.env) :: starEach es X.env := by rfl) (hpl : (backTo pos (starEach es X.env)).any (·.1) = false := by rfl) : PE X (.Call (.Name nm p) (e :: es) [] pos) (tG Ex σ H φ) := by
  obtain ⟨fd, ps, F, kp, bd⟩ := c.ex
  refine PE.imp (pe_make M F (hr.mono hk) hg hm bd .nil pass0 ha hdb he hpl) fun _ _ _ ⟨e1, h1, kk⟩ => ⟨e1, h1, fun vs H1 h2 q a dx n1 n2 n3 => ?_⟩
  rw [List.append_nil]
  obtain ⟨p1, p2, p3⟩ := hA a dx vs H1 (Ex.tr h1 h2) q n1 n2 n3 _ rfl
  refine ⟨x a _, p1, p2, fun v H3 r3 bq => ?_⟩
  obtain ⟨ev, ex, f3⟩ := p3 v H3 r3 bq
  exact ⟨ev, kk _ H3 (Ex.tr h2 ex) f3⟩
/-! dicts by reference -/
theorem de_getR {d : Addr} {kvs : List (Key × V)} {y : Key} {v : V} (hr : Room j X.A) (ha : PE X a (tG Ex σ H (Hv (.ref d)))) (hd : H d = some (.dK kvs)) (hb : PE X b (tG Ex σ H (Hv (kV y)))) (e : valV kvs y = some v) (hs : NoSl b := by exact fun _ _ => rfl) : PE X (.Subscript a b pos) (tG Ex σ H (Hv v)) :=
  PE.imp (pe_dget (room1 hr) ha hb hs) fun _ _ _ ⟨e1, h1, kk⟩ => ⟨e1, h1, fun w H2 h2 ev => ⟨e1, Ex.tr h1 h2, fun z H3 h3 q => by
    exact ⟨d, v, ev, by rw [← e]; exact dget_of (K := X.K) (h3 _ _ (h2 _ _ (h1 _ _ hd))) q, kk v H3 (Ex.tr h2 h3) rfl⟩⟩⟩
/-- d[i] = v -/
theorem bs_dput {d : Addr} {ix : Expr} (hr : Room j X.A) (hv : PE X value (tG Ex σ H φ)) (m : Mo Ex φ) (ho : PE X o (tG Ex σ H (Hv (.ref d)))) (hi : PE X ix (tG Ex σ H ψ))
    (k : ∀ v y H', Ex H H' → φ v H' → ψ y H' → ∃ H4, DPut H' d y v H4 ∧ PSs X rest (tAt σ H4 D)) (hs : swapsWith value (some (.Subscript o ix pos')) pos.line X.env = pure false := by rfl) : PSs X (.Assign [.Subscript o ix pos'] value pos :: rest) (tAt σ H D) :=
  bs_seq (ps_dput (room1 hr) ho hi hv hs) ⟨rfl, Ex.rfl' _, fun v H1 h1 q => ⟨rfl, h1, fun x H2 h2 ex => ⟨rfl, Ex.tr h1 h2, fun y H3 h3 qy => by
    obtain ⟨H4, p1, p2⟩ := k v y H3 (Ex.tr (Ex.tr h1 h2) h3) (m _ _ _ (Ex.tr h2 h3) q) qy
    exact ⟨d, H4, ex, p1, p2⟩⟩⟩⟩
theorem de_tupR {φs : List Pv} {x1} (ha : PA X es (tA Ex σ H φs)) (z : ∀ vs H', All2 φs vs H' → vs.length ≤ sizeLine) (m : ∀ vs H' H'', Ex H' H'' → All2 φs vs H' → All2 φs vs H'') : PE X (.Tuple es x1 pos) (tG Ex σ H (fun v H' => ∃ q vs, v = .ref q ∧ H' q = some (.tup vs) ∧ All2 φs vs H')) :=
  PE.imp (pe_tup ha) fun _ _ _ ⟨e1, h1, k⟩ => ⟨e1, h1, fun vs H2 h2 p => ⟨z vs H2 p, fun q hq => k _ _ (h2.tr (Ex.new hq)) ⟨q, vs, rfl, upd_same, m _ _ _ (Ex.new hq) p⟩⟩⟩
end
end Lf
set_option maxHeartbeats 4000000
/-! K11: stores as data; the evaluator's defs that the law reaches, but its making. -/
namespace Lf
open PySem PySem.Spec L2
open PyProof.Rows hiding St
abbrev Vl := Option Int
def dV : Vl → PyData
  | none => .none
  | some i => .int i
/-- the values by name -/
def rowOf (fm : Form) (vs : List Vl) : AL Vl := (fm.zip vs).map fun p => (p.1.1, p.2)
abbrev CE (K : Fg) : Addr := He.ga K "PlainEvaluator"
structure Tv (K : Fg) (mg : Str → Option Value) : Prop where
  g : mg "PlainEvaluator" = some (.ref (CE K))
  cls : Cls K (CE K)
  nC : NoAttr K (CE K) "classes"
  nR : NoAttr K (CE K) "rows"
  nN : NoAttr K (CE K) "noted"
  make : Mk K (CE K) (He.ma K (CE K) "__init__")
  look : Meth K (CE K) "look" (He.ma K (CE K) "look")
  holder : Meth K (CE K) "holder" (He.ma K (He.ga K "Evaluator") "holder")
  led : Meth K (CE K) "led_to" (He.ma K (He.ga K "Evaluator") "led_to")
  amount : Meth K (CE K) "amount" (He.ma K (He.ga K "Evaluator") "amount")
  link : Meth K (CE K) "link" (He.ma K (He.ga K "Evaluator") "link")
/-- rows by number -/
abbrev Rws := List (Nat × AL Vl)
abbrev evF (d1 d2 d3 : Addr) : List (Str × V) := [("classes", .ref d1), ("rows", .ref d2), ("noted", .ref d3)]
structure EvAt (K : Fg) (H : Hp) (a d3 : Addr) (ob : Rws) (dx d1 d2 : Addr) (rws : List (Key × V)) : Prop where
  ins : H a = some (.ins (CE K) dx (evF d1 d2 d3))
  rows : H d2 = some (.dK rws)
  noted : ∃ nt, H d3 = some (.dT nt) ∧ nt.length < 1000
  at_ : ∀ p ∈ ob, ∃ r kvs, valV rws (.inl (p.1 : Int)) = some (.ref r) ∧ H r = some (.dK kvs) ∧ DicR K H kvs (p.2.map (kf dV))
def IsEv (K : Fg) (d3 : Addr) (ob : Rws) : Pv := fun v H => ∃ a dx d1 d2 rws, v = .ref a ∧ EvAt K H a d3 ob dx d1 d2 rws
theorem mo_ev {K : Fg} {d3 : Addr} {ob : Rws} : Mo Ex (IsEv K d3 ob) := fun v H H' x ⟨a, dx, d1, d2, rws, e, h⟩ => ⟨a, dx, d1, d2, rws, e, x _ _ h.ins, x _ _ h.rows, (by
    obtain ⟨nt, h1, h2⟩ := h.noted
    exact ⟨nt, x _ _ h1, h2⟩), fun p hp => by
    obtain ⟨r, kvs, h1, h2, h3⟩ := h.at_ p hp
    exact ⟨r, kvs, h1, x _ _ h2, h3.mono rlEx x⟩⟩
theorem rn_upd {n : Addr} {H : Hp} {l : List (List Key × V)} {o : HO} (h : H n = some (.dT l)) : RN n H (upd H n o) := fun b u hb c => by
  by_cases z : b = n
  · subst z
    rw [h] at hb
    cases hb
    exact absurd (c.resolve_left (fun z => z rfl)) (fun z => z.2 _ rfl)
  · rw [upd_ne z]
    exact hb
theorem ev_ins' {K : Fg} {d3 : Addr} {ob : Rws} {v : V} {H : Hp} (h : IsEv K d3 ob v H) : ∃ d1 d2, IsIns (CE K) (evF d1 d2 d3) v H := by
  obtain ⟨a, dx, d1, d2, rws, e, h⟩ := h
  exact ⟨d1, d2, a, dx, e, h.ins⟩
/-- what an expression reads off a row -/
def evE (row : AL Vl) : Ek → Vl
  | .num z => some z
  | .get f => (fnd f row).getD none
  | .to f => (fnd f row).getD none
section
variable {P : Program} {w : World} {K : Fg} {mg : Str → Option Value} {base : Heap}
structure LkX where
  d3 : Addr
  ob : Rws
  n : Nat
  row : AL Vl
  f : Str
  v : Vl
def LkX.ok (x : LkX) : Prop := (x.n, x.row) ∈ x.ob ∧ fnd x.f x.row = some x.v
abbrev spLook (K : Fg) : Sp := spT (fun x : LkX => RN x.d3) (fun x => x.ok) (fun x => [IsEv K x.d3 x.ob, Hd K (.int (x.n : Int)), Hd K (.str x.f)]) (fun x => Hd K (dV x.v))
theorem f_look (T : Tx K mg) (E' : Tv K mg) : Fna P w K mg base 1 (He.ma K (CE K) "look") (spLook K) := by
  refine fna_of T.d_PlainEvaluator_look sc_PlainEvaluator_look bn_PlainEvaluator_look (fun _ => rfl) fun cdv A0 outer s H E x vs Q hr ok ha hQ => ?_
  obtain ⟨v, u, t, rfl, h1, h2, h3⟩ := all3 ha
  obtain ⟨a, dx, d1, d2, rws, rfl, ev⟩ := h1
  obtain ⟨nt, n1, n2⟩ := ev.noted
  obtain ⟨r, kvs, r1, r2, r3⟩ := ev.at_ _ ok.1
  refine bs_dput (d := x.d3) (ψ := fun y H' => ∃ q vs, y = .ref q ∧ H' q = some (.tup vs) ∧ All2 [Hd K (.int (x.n : Int)), Hd K (.str x.f)] vs H') hr (de_bl (b := true) rlEx) (mo_d rlEx) ?_ (de_tupR (φs := [Hd K (.int (x.n : Int)), Hd K (.str x.f)]) (ar2 (vd 1 h2) (vd 2 h3)) ?_ ?_) fun b y H1 e1 hb hy => ?_
  · exact de_fld (C := CE K) (fs := evF d1 d2 x.d3) rlEx (de_var (i := 0) rlEx rfl (mo_ins rlEx) ⟨a, dx, rfl, ev.ins⟩ rfl (.inl rfl)) E'.cls E'.nN (by rfl)
  · intro vs H' q
    obtain ⟨a1, a2, rfl, _, _⟩ := all2 q
    show 2 ≤ sizeLine
    decide
  · intro vs H' H'' e q
    obtain ⟨a1, a2, rfl, q1, q2⟩ := all2 q
    exact ⟨a1, _, rfl, rlEx.dp e q1, a2, _, rfl, rlEx.dp e q2, rfl⟩
  obtain ⟨q, vs, rfl, hq, qs⟩ := hy
  obtain ⟨a1, a2, rfl, q1, q2⟩ := all2 qs
  obtain rfl := dp_int q1
  obtain rfl := dp_str q2
  refine ⟨_, DPut.t (k := [.inl (x.n : Int), .inr x.f]) (e1 _ _ n1) hq (Nat.lt_trans n2 (by decide)), ?_⟩
  have rn : RN x.d3 H (upd H1 x.d3 (.dT (putK nt [.inl (x.n : Int), .inr x.f] b))) := (rlRN x.d3).trans ((rlRN x.d3).ex e1) (rn_upd (e1 _ _ n1))
  have ne : ∀ (c : Addr) (o : HO), H c = some o → (∀ k, o ≠ .dT k) → c ≠ x.d3 := fun c o hc nd z => by
    rw [z, n1] at hc
    exact nd _ (Option.some.inj hc).symm
  have g2 := rn _ _ ev.rows (.inl (ne _ _ ev.rows fun _ z => by cases z))
  have g3 := rn _ _ r2 (.inl (ne _ _ r2 fun _ z => by cases z))
  have g1 := rn _ _ ev.ins (.inl (ne _ _ ev.ins fun _ z => by cases z))
  have g4 := r3.mono (rlRN x.d3) rn
  refine bs_ret (φ := Hd K (dV x.v)) (de_getD (k := .inr x.f) (kds := x.row.map (kf dV)) hr (de_imp (de_getR (y := .inl (x.n : Int)) (v := .ref r) hr (de_fld (C := CE K) (fs := evF d1 d2 x.d3) rlEx (de_var (i := 0) rlEx rfl (mo_ins rlEx) ⟨a, dx, rfl, g1⟩ rfl (.inl rfl)) E'.cls E'.nR (by rfl)) g2 (de_imp (φ := Hd K (.int (x.n : Int))) (vd 1 ((rlRN x.d3).dp rn h2)) (fun _ _ _ h => (dp_int h : _ = V.int (x.n : Int))) rlEx) r1) (fun v' H' e' h => ⟨r, kvs, h, e' _ _ g3, g4.mono rlEx e'⟩) rlEx) (vd 2 ((rlRN x.d3).dp rn h3)) key_str ?_) rlEx fun v' H4 e4 q => hQ v' H4 ((rlRN x.d3).trans rn ((rlRN x.d3).ex e4)) q
  have z := fndK_of (f := dV) (c := x.f) (l := x.row)
  rw [ok.2] at z
  exact z

abbrev spHolder (K : Fg) : Sp := spT (fun _ : LkX => Ex) (fun _ => True) (fun x => [IsEv K x.d3 x.ob, Hd K (.int (x.n : Int)), Hd K (.tuple [.str x.f])]) (fun x => Hd K (.int (x.n : Int)))
theorem f_holder (T : Tx K mg) : Fna P w K mg base 1 (He.ma K (He.ga K "Evaluator") "holder") (spHolder K) := by
  refine fna_of T.d_Evaluator_holder sc_Evaluator_holder bn_Evaluator_holder (fun _ => rfl) fun cdv A0 outer s H E x vs Q hr ok ha hQ => ?_
  obtain ⟨v, u, t, rfl, h1, h2, h3⟩ := all3 ha
  refine bs_set (i := 3) rlEx sc_Evaluator_holder.nd rfl (.inl rfl) (vd 1 h2) fun hv H1 e1 q1 => ?_
  refine bs_for (src := ([] : List PyData)) (g := gName 4) rlEx PassesOwn.never rfl (src_tup (src := ([] : List PyData)) (f := id) rlEx (de_is (de_slT rlEx (vdm 2 h3 e1) (dpo_none rlEx) (dpo_some (de_neg (de_int rlEx))) ?_) ?_)) (pg_name (i := 4) sc_Evaluator_holder.nd rfl (.inl rfl))
    (fun H2 i σ' H' => σ' = [some v, some u, some t, some hv, none] ∧ Ex H2 H') (fun H2 _ => ⟨rfl, Ex.rfl' _⟩) (fun H2 i σ' H' _ _ ⟨_, e⟩ => e) ?_ ?_
  · show ¬(HT.sIx 1 0 none = 0 ∧ HT.sIx 1 1 (some (-1)) = 1)
    decide
  · rfl
  · rintro H2 i s0 y σ' H' H'' e2 hp
    simp at hp
  · rintro H2 σ' H' e2 ⟨rfl, e3⟩
    exact bs_ret (vdm 3 q1 (Ex.tr e2 e3)) rlEx fun v' H4 e4 q => hQ v' H4 (Ex.tr (Ex.tr e1 (Ex.tr e2 e3)) e4) q
/-- the evaluator at its places -/
def EvR (K : Fg) (a d3 : Addr) (ob : Rws) (dx d1 d2 : Addr) (rws : List (Key × V)) : Pv := fun v H => v = .ref a ∧ EvAt K H a d3 ob dx d1 d2 rws
section
variable {a d3 dx d1 d2 : Addr} {ob : Rws} {rws : List (Key × V)}
theorem evr_ev {v : V} {H : Hp} (h : EvR K a d3 ob dx d1 d2 rws v H) : IsEv K d3 ob v H := ⟨a, dx, d1, d2, rws, h.1, h.2⟩
theorem mo_evr : Mo Ex (EvR K a d3 ob dx d1 d2 rws) := fun v H H' x ⟨e, h⟩ => ⟨e, x _ _ h.ins, x _ _ h.rows, (by
    obtain ⟨nt, h1, h2⟩ := h.noted
    exact ⟨nt, x _ _ h1, h2⟩), fun p hp => by
    obtain ⟨r, kvs, h1, h2, h3⟩ := h.at_ p hp
    exact ⟨r, kvs, h1, x _ _ h2, h3.mono rlEx x⟩⟩
theorem vev {X : Cx} {σ : St} {H H0 : Hp} {x : Str} {pos : Pos} {v : V} (i : Nat) (h : EvR X.K a d3 ob dx d1 d2 rws v H0) (e : Ex H0 H) (hs : σ[i]? = some (some v) := by rfl) (hN : X.N[i]? = some x := by rfl) (vis : Vis X.env.scope x := by first | exact .inl rfl | exact .inr (.inl rfl) | exact .inr (.inr rfl))
    (hd : (x == ("__debug__" : Str)) = false := by decide) (hcd : (x == ("__classdict__" : Str)) = false := by decide) : PE X (.Name x pos) (tG Ex σ H (EvR X.K a d3 ob dx d1 d2 rws)) := de_var (i := i) rlEx hs mo_evr (mo_evr _ _ _ e h) hN vis hd hcd
theorem evr_ins {v : V} {H : Hp} (h : EvR K a d3 ob dx d1 d2 rws v H) : IsIns (CE K) (evF d1 d2 d3) v H := ⟨a, dx, h.1, h.2.ins⟩
theorem all2_cons {φ : Pv} {φs : List Pv} {v : V} {vs : List V} {H : Hp} (h : φ v H) (t : All2 φs vs H) : All2 (φ :: φs) (v :: vs) H := ⟨v, vs, rfl, h, t⟩
end
abbrev spLed (K : Fg) : Sp := spT (fun x : LkX => RN x.d3) (fun x => x.ok) (fun x => [IsEv K x.d3 x.ob, Hd K (.int (x.n : Int)), Hd K (.tuple [.str x.f])]) (fun x => Hd K (dV x.v))
theorem f_led_to (T : Tx K mg) (E' : Tv K mg) : Fna P w K mg base 2 (He.ma K (He.ga K "Evaluator") "led_to") (spLed K) := by
  refine fna_of T.d_Evaluator_led_to sc_Evaluator_led_to bn_Evaluator_led_to (fun _ => rfl) fun cdv A0 outer s H E x vs Q hr ok ha hQ => ?_
  obtain ⟨v, u, t, rfl, h1, h2, h3⟩ := all3 ha
  obtain ⟨a, dx, d1, d2, rws, rfl, ev⟩ := h1
  have ev0 : EvR K a x.d3 x.ob dx d1 d2 rws (.ref a) H := ⟨rfl, ev⟩
  refine bs_setX (R := Ex) (i := 3) sc_Evaluator_led_to.nd rfl (.inl rfl) (dx_meth (f_holder T) x hr (by decide) trivial (vev 0 ev0 (Ex.rfl' _)) mo_evr (fun _ _ => evr_ins) E'.cls E'.holder rfl (ar2 (vd 1 h2) (vd 2 h3)) (fun v vs H' _ q qs => all2_cons (evr_ev q) qs) rlEx) fun hv H1 e1 q1 => ?_
  refine bs_retX (R := RN x.d3) (φ := Hd K (dV x.v)) (dx_if (c := false) (dt_isN rlEx (vd 3 q1)) (fun z => by cases z) (fun _ => ?_) (rlRN _)) fun v' H4 e4 q => hQ v' H4 ((rlRN x.d3).trans ((rlRN x.d3).ex e1) e4) q
  refine dx_meth (f_look T E') x hr (by decide) ok (vev 0 ev0 e1) mo_evr (fun _ _ => evr_ins) E'.cls E'.look rfl (ar2 (vd 3 q1) (de_ixT (d := .str x.f) rlEx (vdm 2 h3 e1) (de_neg (de_int rlEx)) rfl)) (fun v vs H' _ q qs => all2_cons (evr_ev q) qs) (rlRN _)

structure AmX where
  d3 : Addr
  ob : Rws
  n : Nat
  row : AL Vl
  e : Ek
  v : Vl
def AmX.lk (x : AmX) (f : Str) : LkX := ⟨x.d3, x.ob, x.n, x.row, f, x.v⟩
def AmX.okA (x : AmX) : Prop := match x.e with
  | .num z => x.v = some z
  | .get f => (x.lk f).ok
  | .to _ => False
def AmX.okL (x : AmX) : Prop := match x.e with
  | .num _ => False
  | .get _ => False
  | .to f => (x.lk f).ok
/-- x, *y = t, t a tuple of data -/
theorem bs_star {X : Cx} {σ : St} {H : Hp} {D : Ends} {e : Expr} {rest : List Stmt} {pos p p2 p3 tp : Pos} {d : PyData} {ds : List PyData} {i j k : Nat} {x y : Str} (hN : X.N.Nodup) (hi : X.N[i]? = some x) (hj : X.N[j]? = some y) (hx : X.env.scope.names.lookup x = some .local) (hy : X.env.scope.names.lookup y = some .local) (hc : X.calm = true)
    (he : PE X e (tG Ex σ H (Hd X.K (.tuple (d :: ds))))) (hz : ds.length ≤ 10000) (kk : ∀ v u H', Ex H H' → Dp X.K H' v d → Dp X.K H' u (.list ds) → PSs X rest (tAt ((σ.set i (some v)).set j (some u)) H' D))
    (ha : ∀ us, assignInOrder ((assignEach [.Name x p, .Starred (.Name y p2) p3] X.env).map (·.2)) us = assignInOrder [assign (.Name x p) X.env, assign (.Name y p2) X.env] us := by intro _; rfl)
    (hn : (assignEach [.Name x p, .Starred (.Name y p2) p3] X.env).length = 2 := by rfl) (hst : (assignEach [.Name x p, .Starred (.Name y p2) p3] X.env).findIdx? (·.1) = some 1 := by rfl)
    (hs : swapsWithSole [.Tuple [.Name x p, .Starred (.Name y p2) p3] k tp] e pos.line X.env = pure false := by rfl) (hw : swappedStores [.Tuple [.Name x p, .Starred (.Name y p2) p3] k tp] e X.env = pure none := by rfl)
    (h1 : (assignEach [.Tuple [.Name x p, .Starred (.Name y p2) p3] k tp] X.env).map (·.2) = [assign (.Tuple [.Name x p, .Starred (.Name y p2) p3] k tp) X.env] := by rfl) :
    PSs X (.Assign [.Tuple [.Name x p, .Starred (.Name y p2) p3] k tp] e pos :: rest) (tAt σ H D) :=
  bs_asg rlEx (pg_star (g1 := gName i) (g2 := gName j) hc (pg_name (i := i) hN hi (.inl hx) (.inr hx)) (pg_name (i := j) hN hj (.inl hy) (.inr hy)) ha hn hst) he (fun v H' e' q => by
    obtain ⟨a, xs, rfl, hq, hd⟩ := dp_tup q
    cases hd with
    | cons d1 t =>
      exact ⟨a, _, _, rfl, hq, by rw [DpAll.length t]; exact hz, fun l hl => kk _ _ _ (Ex.tr e' (Ex.new hl)) (rlEx.dp (Ex.new hl) d1) (.lst (.inl (.inl upd_same)) (rlEx.dpAll (Ex.new hl) t))⟩) hs hw h1
abbrev spAmount (K : Fg) : Sp := spT (fun x : AmX => RN x.d3) (fun x => x.okA) (fun x => [IsEv K x.d3 x.ob, Hd K (.int (x.n : Int)), Hd K (dE x.e)]) (fun x => Hd K (dV x.v))
theorem f_amount (T : Tx K mg) (E' : Tv K mg) : Fna P w K mg base 2 (He.ma K (He.ga K "Evaluator") "amount") (spAmount K) := by
  refine fna_of T.d_Evaluator_amount sc_Evaluator_amount bn_Evaluator_amount (fun _ => rfl) fun cdv A0 outer s H E x vs Q hr ok ha hQ => ?_
  obtain ⟨v, u, t, rfl, h1, h2, h3⟩ := all3 ha
  obtain ⟨a, dx, d1, d2, rws, rfl, ev⟩ := h1
  have ev0 : EvR K a x.d3 x.ob dx d1 d2 rws (.ref a) H := ⟨rfl, ev⟩
  obtain ⟨d3, ob, n, row, e, val⟩ := x
  have h2 : Dp K H u (.int (n : Int)) := h2
  cases e with
  | num z =>
    have ok : val = some z := ok
    subst ok
    have h3 : Dp K H t (.int z) := h3
    refine bs_when (t := true) rlEx (dt_val rlEx (cE (f_is_integer T) (.int z) hr trivial (ar1 (vd 2 h3)))) (fun _ H1 e1 => ?_) (fun z => by cases z)
    exact bs_ret (vdm 2 h3 e1) rlEx fun v' H4 e4 q => hQ v' H4 ((rlRN d3).ex (Ex.tr e1 e4)) q
  | get f =>
    have ok : LkX.ok ⟨d3, ob, n, row, f, val⟩ := ok
    have h3 : Dp K H t (.tuple [.str "get", .tuple [.str f], .int 0]) := h3
    refine bs_when (t := false) rlEx (dt_val rlEx (cE (f_is_integer T) (.tuple [.str "get", .tuple [.str f], .int 0]) hr trivial (ar1 (vd 2 h3)))) (fun z => by cases z) fun _ H1 e1 => ?_
    refine bs_star (i := 3) (j := 4) sc_Evaluator_amount.nd rfl rfl rfl rfl rfl (vdm 2 h3 e1) (by simp) fun wv pv H2 e2 q1 q2 => ?_
    refine bs_when (t := true) rlEx (dt_is (dt_eqS (x := "get") (y := "get") rlEx (vd 3 q1) (de_str rlEx)) rfl) (fun _ H3 e3 => ?_) (fun z => by cases z)
    have e13 : Ex H H3 := Ex.tr (Ex.tr e1 e2) e3
    refine bs_setX (R := Ex) (i := 5) sc_Evaluator_amount.nd rfl (.inl rfl) (dx_meth (f_holder T) ⟨d3, ob, n, row, f, val⟩ hr (by decide) trivial (vev 0 ev0 e13) mo_evr (fun _ _ => evr_ins) E'.cls E'.holder rfl (ar2 (vdm 1 h2 e13) (de_ixL (d := .tuple [.str f]) rlEx (vdm 4 q2 e3) (de_int rlEx) rfl)) (fun v vs H' _ q qs => all2_cons (evr_ev q) qs) rlEx) fun hv H4 e4 q4 => ?_
    refine bs_retX (R := RN d3) (φ := Hd K (dV val)) (dx_if (c := false) (dt_isN rlEx (vd 5 q4)) (fun z => by cases z) (fun _ => ?_) (rlRN _)) fun v' H5 e5 q => hQ v' H5 ((rlRN d3).trans ((rlRN d3).ex (Ex.tr e13 e4)) e5) q
    exact dx_meth (f_look T E') ⟨d3, ob, n, row, f, val⟩ hr (by decide) ok (vev 0 ev0 (Ex.tr e13 e4)) mo_evr (fun _ _ => evr_ins) E'.cls E'.look rfl (ar2 (vd 5 q4) (de_ixT (ds := [.str f]) (d := .str f) rlEx (de_ixL (d := .tuple [.str f]) rlEx (vdm 4 q2 (Ex.tr e3 e4)) (de_int rlEx) rfl) (de_neg (de_int rlEx)) rfl)) (fun v vs H' _ q qs => all2_cons (evr_ev q) qs) (rlRN _)
  | to f => exact ok.elim
abbrev spLink (K : Fg) : Sp := spT (fun x : AmX => RN x.d3) (fun x => x.okL) (fun x => [IsEv K x.d3 x.ob, Hd K (.int (x.n : Int)), Hd K (dE x.e)]) (fun x => Hd K (dV x.v))
theorem f_link (T : Tx K mg) (E' : Tv K mg) : Fna P w K mg base 3 (He.ma K (He.ga K "Evaluator") "link") (spLink K) := by
  refine fna_of T.d_Evaluator_link sc_Evaluator_link bn_Evaluator_link (fun _ => rfl) fun cdv A0 outer s H E x vs Q hr ok ha hQ => ?_
  obtain ⟨v, u, t, rfl, h1, h2, h3⟩ := all3 ha
  obtain ⟨a, dx, d1, d2, rws, rfl, ev⟩ := h1
  have ev0 : EvR K a x.d3 x.ob dx d1 d2 rws (.ref a) H := ⟨rfl, ev⟩
  obtain ⟨d3, ob, n, row, e, val⟩ := x
  have h2 : Dp K H u (.int (n : Int)) := h2
  cases e with
  | num z => exact ok.elim
  | get f => exact ok.elim
  | to f =>
    have ok : LkX.ok ⟨d3, ob, n, row, f, val⟩ := ok
    have h3 : Dp K H t (.tuple [.str "to", .tuple [.str f]]) := h3
    refine bs_when (t := false) rlEx (dt_is (dt_isN (d := .tuple [.str "to", .tuple [.str f]]) rlEx (vd 2 h3)) rfl) (fun z => by cases z) fun _ H1 e1 => ?_
    refine bs_star (i := 3) (j := 4) sc_Evaluator_link.nd rfl rfl rfl rfl rfl (vdm 2 h3 e1) (by simp) fun wv pv H2 e2 q1 q2 => ?_
    refine bs_when (t := false) rlEx (dt_is (dt_eqS (x := "to") (y := "self") rlEx (vd 3 q1) (de_str rlEx)) (by decide +kernel)) (fun z => by cases z) fun _ H3 e3 => ?_
    have q1 := rlEx.dp e3 q1
    refine bs_when (t := true) rlEx (dt_is (dt_eqS (x := "to") (y := "to") rlEx (vd 3 q1) (de_str rlEx)) rfl) (fun _ H4 e4 => ?_) (fun z => by cases z)
    have e14 : Ex H H4 := Ex.tr (Ex.tr (Ex.tr e1 e2) e3) e4
    refine bs_retX (R := RN d3) (φ := Hd K (dV val)) (dx_meth (f_led_to T E') ⟨d3, ob, n, row, f, val⟩ hr (by decide) ok (vev 0 ev0 e14) mo_evr (fun _ _ => evr_ins) E'.cls E'.led rfl (ar2 (vdm 1 h2 e14) (de_ixL (d := .tuple [.str f]) rlEx (vdm 4 q2 (Ex.tr e3 e4)) (de_int rlEx) rfl)) (fun v vs H' _ q qs => all2_cons (evr_ev q) qs) (rlRN _)) fun v' H5 e5 q => hQ v' H5 ((rlRN d3).trans ((rlRN d3).ex e14) e5) q
end
end Lf
set_option maxHeartbeats 4000000
/-! K12: the evaluator made from a store. -/
namespace Lf
open PySem PySem.Spec L2
open PyProof.Rows hiding St
structure Ob where
  n : Nat
  c : Str
  vs : List Vl
  deriving DecidableEq
def dOb (o : Ob) : PyData := .tuple [.int (o.n : Int), .str o.c, .tuple (o.vs.map dV)]
structure Sto where
  sch : Sch
  lim : Int
  obs : List Ob
def HSto (K : Fg) (st : Sto) : Pv := fun v H => ∃ a s o, v = .ref a ∧ SqT K H a [s, .int st.lim, o] ∧ Hs K st.sch s H ∧ Dp K H o (.tuple (st.obs.map dOb))
def dSto (st : Sto) : PyData := .tuple [dSch st.sch, .int st.lim, .tuple (st.obs.map dOb)]
theorem sto_dp {K : Fg} {st : Sto} {v : V} {H : Hp} (h : HSto K st v H) : Dp K H v (dSto st) := by
  obtain ⟨a, s, o, rfl, h1, h2, h3⟩ := h
  exact .tup h1 (.cons (hs_dp h2) (.cons (.int _) (.cons h3 .nil)))
theorem mo_sto {R : Rel} (r : Rl R) {K : Fg} {st : Sto} : Mo R (HSto K st) := fun v H H' x ⟨a, s, o, e, h1, h2, h3⟩ => ⟨a, s, o, e, r.sqT x h1, mo_fz r _ _ _ x h2, r.dp x h3⟩
/-- a value of a kind -/
def vlOk : Kd → Vl → Prop
  | .rng lo hi, some i => lo ≤ i ∧ i ≤ hi
  | .rng _ _, none => False
  | .cls _, _ => True
def valsOk (fm : Form) (vs : List Vl) : Prop := vs.length = fm.length ∧ ∀ (i : Nat) (p : Str × Kd) (v : Vl), fm[i]? = some p → vs[i]? = some v → vlOk p.2 v
structure StoOk (st : Sto) : Prop where
  up : Up (st.sch.map (·.1))
  forms : ∀ p ∈ st.sch, formOk p.2
  obs : ∀ o ∈ st.obs, ∃ fm, fnd o.c st.sch = some fm ∧ valsOk fm o.vs
  nums : (st.obs.map (·.n)).Nodup
  few : st.sch.length < 900 ∧ st.obs.length < 900
def fmAt (st : Sto) (o : Ob) : Form := (fnd o.c st.sch).getD []
def rowAt (st : Sto) (o : Ob) : AL Vl := rowOf (fmAt st o) o.vs
def stRows (st : Sto) : Rws := st.obs.map fun o => (o.n, rowAt st o)
theorem rowOf_keys {fm : Form} {vs : List Vl} (h : vs.length = fm.length) : (rowOf fm vs).map (·.1) = fm.map (·.1) := by
  unfold rowOf
  rw [List.map_map]
  have e : (fm.zip vs).map ((fun p : Str × Vl => p.1) ∘ fun p : (Str × Kd) × Vl => (p.1.1, p.2)) = ((fm.zip vs).map Prod.fst).map (·.1) := by rw [List.map_map]; rfl
  rw [e, List.map_fst_zip (by rw [h]; exact Nat.le_refl _)]
theorem rd_ri {a c : Addr} {H H' : Hp} {C dx : Addr} {fs : List (Str × V)} {u : HO} (x : RO a H H') (ha : H a = some (.ins C dx fs)) (n1 : u ≠ .ins C dx fs) (r : Rd H c u) : Rd H' c u := by
  have ne : c ≠ a := fun e => no_rd ha (Ne.symm n1) (fun _ q => by cases q) (e ▸ r)
  exact r.imp (x c _ ne) fun ⟨o, z⟩ => ⟨o, x c _ ne z⟩
theorem dp_ri {K : Fg} {a : Addr} {H H' : Hp} {d : PyData} {v : V} {C dx : Addr} {fs : List (Str × V)} (x : RO a H H') (ha : H a = some (.ins C dx fs)) (h : Dp K H v d) : Dp K H' v d :=
  dp_map (fun _ _ r => rd_ri x ha (fun q => by cases q) r) (fun _ _ r => rd_ri x ha (fun q => by cases q) r) h
theorem fz_ro {K : Fg} {a : Addr} {H H' : Hp} {ds : List PyData} {v : V} {C dx : Addr} {fs : List (Str × V)} (x : RO a H H') (ha : H a = some (.ins C dx fs)) (h : IsFz K ds v H) : IsFz K ds v H' := by
  obtain ⟨b, o, xs, e, hb, hd, q⟩ := h
  have ne : b ≠ a := fun z => by rw [z, ha] at hb; cases hb
  exact ⟨b, o, xs, e, x _ _ ne hb, hd, dp_mapAll (fun _ _ r => rd_ri x ha (fun q => by cases q) r) (fun _ _ r => rd_ri x ha (fun q => by cases q) r) q⟩
theorem rn_updK {n : Addr} {H : Hp} {l : List (Key × V)} {o : HO} (h : H n = some (.dK l)) : RN n H (upd H n o) := fun b u hb c => by
  by_cases z : b = n
  · subst z
    rw [h] at hb
    cases hb
    exact absurd (c.resolve_left (fun z => z rfl)) (fun z => z.1 _ rfl)
  · rw [upd_ne z]
    exact hb
theorem RN.ro {n : Addr} {H H' : Hp} (x : RN n H H') : RO n H H' := fun b o ne h => x b o h (.inl ne)
structure InX where
  a : Addr
  H0 : Hp
  st : Sto
section
variable {P : Program} {w : World} {K : Fg} {mg : Str → Option Value} {base : Heap}
theorem form_nodup {fm : Form} (h : formOk fm) : (fm.map (·.1)).Nodup := up_nodup (up_rising.mp h.2.1)
/-- the rows so far -/
def RowsTo (K : Fg) (st : Sto) (d2 : Addr) (i : Nat) (H : Hp) : Prop := ∃ rws, H d2 = some (.dK rws) ∧ rws.length ≤ i ∧ ∀ k o, k < i → st.obs[k]? = some o → ∃ r kvs, valV rws (.inl (o.n : Int)) = some (.ref r) ∧ r ≠ d2 ∧ H r = some (.dK kvs) ∧ DicR K H kvs ((rowAt st o).map (kf dV))
abbrev spInit (K : Fg) : Sp := spT (fun x : InX => RO x.a) (fun x => StoOk x.st) (fun x => [fun v H => v = .ref x.a ∧ H = x.H0 ∧ ∃ dx, H x.a = some (.ins (CE K) dx []), HSto K x.st]) (fun x v H' => v = .non ∧ ∃ d3, x.H0 d3 = none ∧ IsEv K d3 (stRows x.st) (.ref x.a) H')
theorem f_ev_init (T : Tx K mg) (E' : Tv K mg) : Fna P w K mg base 2 (He.ma K (CE K) "__init__") (spInit K) := by
  refine fna_of T.d_PlainEvaluator_init sc_PlainEvaluator_init bn_PlainEvaluator_init (fun _ => rfl) fun cdv A0 outer s H E x vs Q hr ok ha hQ => ?_
  obtain ⟨v, u, rfl, ⟨rfl, eH, dx, hins⟩, h2⟩ := all2 ha
  obtain ⟨a, H0, st⟩ := x
  obtain ⟨up, forms, obs, nums, few⟩ := (show StoOk st from ok)
  have eH : H = H0 := eH
  subst eH
  have hins : H a = some (.ins (CE K) dx []) := hins
  obtain ⟨pa, sv, ov, rfl, hq, hs, ho⟩ := h2
  have big : 1000 ≤ sizeLine := by decide
  have few2 : st.obs.length < 900 := few.2
  -- schema, limit, objects = plain
  refine bs_asg (g := gTup K 3 (gCons (gName 2) (gCons (gName 3) (gCons (gName 4) gNil)))) rlEx (pg_tup (X := _) rfl (pgs_cons (pg_name (i := 2) sc_PlainEvaluator_init.nd rfl (.inl rfl)) (pgs_cons (pg_name (i := 3) sc_PlainEvaluator_init.nd rfl (.inl rfl)) (pgs_cons (pg_name (i := 4) sc_PlainEvaluator_init.nd rfl (.inl rfl)) pgs_nil)))) (de_var (φ := Hv (.ref pa)) (i := 1) rlEx rfl mo_v rfl rfl (.inl rfl)) fun v1 H1 e1 ev => ?_
  subst ev
  refine ⟨pa, _, rfl, rlEx.sqT e1 hq, rfl, sv, _, rfl, .int st.lim, _, rfl, ov, _, rfl, rfl, ?_⟩
  have ho1 : Dp K H1 ov (.tuple (st.obs.map dOb)) := rlEx.dp e1 ho
  -- self.classes
  refine bs_fld (C := CE K) (φ := IsDic K ((st.obs.filter fun _ => true).map fun o : Ob => ((Sum.inl (o.n : Int) : Key), PyData.str o.c))) (de_dc (own := [("number", 5), ("cls", 6), ("values", 7)]) (g := gTup K 3 (gCons (gName 5) (gCons (gName 6) (gCons (gName 7) gNil)))) (bo := fun _ : Ob => true) (ky := fun o : Ob => Sum.inl (o.n : Int)) (eo := fun o : Ob => PyData.str o.c) rfl sc_PlainEvaluator_init.nd (blkOk_by (N := ["self", "plain", "schema", "limit", "objects", "number", "cls", "values", "own", "value"]) (sc := defScope s_PlainEvaluator_init) (by decide +kernel))
      (src_tup (src := st.obs) (f := dOb) rlEx (vd 4 ho1)) (by omega) (fun r _ => rfl) ?_ (fun _ _ _ _ _ => pg_tup (X := _) rfl (pgs_cons (pg_name (i := 5) sc_PlainEvaluator_init.nd rfl (.inl rfl)) (pgs_cons (pg_name (i := 6) sc_PlainEvaluator_init.nd rfl (.inl rfl)) (pgs_cons (pg_name (i := 7) sc_PlainEvaluator_init.nd rfl (.inl rfl)) pgs_nil)))) gm_3
      fun r y H' _ _ hy => g3t hy fun v1 v2 v3 p1 p2 p3 => ⟨rfl, Ex.rfl' _, fun _ _ _ _ _ => dts_nil rlEx rfl, fun _ H3 e3 => ⟨fun _ _ _ _ _ => de_imp (vd 5 (rlEx.dp e3 p1)) (fun _ _ _ h => dp_int h) rlEx, fun H4 e4 _ _ _ _ _ => vd 6 (rlEx.dp e4 p2)⟩⟩) mo_dic (de_var (i := 0) rlEx rfl mo_v rfl rfl (.inl rfl)) (e1 _ _ hins) E'.cls E'.nC (by decide) fun dv1 H2 e2 hd1 => ?_
  · rw [List.filter_eq_self.mpr (fun _ _ => rfl)]
    have e : (st.obs.map fun o : Ob => (Sum.inl (o.n : Int) : Key)) = (st.obs.map (·.n)).map fun n : Nat => Sum.inl (n : Int) := by rw [List.map_map]; rfl
    rw [e]
    exact List.Pairwise.map _ (fun a b h e => h (by have := Sum.inl.inj e; omega)) nums
  obtain ⟨d1, kv1, rfl, _, _⟩ := hd1
  have r12 : RO a H (upd H2 a (.ins (CE K) dx (putF "classes" (.ref d1) []))) := RO.tr (RO.of (e1.tr e2)) RO.upd
  generalize hH3 : upd H2 a (.ins (CE K) dx (putF "classes" (.ref d1) [])) = H3 at r12
  have i3 : H3 a = some (.ins (CE K) dx [("classes", .ref d1)]) := by rw [← hH3]; exact upd_same
  -- self.rows = {}
  refine bs_fld (C := CE K) (φ := fun v H' => ∃ d2, v = .ref d2 ∧ H3 d2 = none ∧ H' d2 = some (.dK [])) (PE.imp pe_dnewK fun σ' H' Q' ⟨q1, q2, k⟩ p hp => k _ _ (Ex.new hp) ⟨p, rfl, Ex.back q2 hp, upd_same⟩) (fun v b c e ⟨d2, q1, q2, q3⟩ => ⟨d2, q1, q2, e _ _ q3⟩) (de_var (i := 0) rlEx rfl mo_v rfl rfl (.inl rfl)) i3 E'.cls E'.nR (by simp) fun dv2 H4 e4 hd2 => ?_
  obtain ⟨d2, rfl, n2, hd2⟩ := hd2
  have ne2 : d2 ≠ a := fun z => by rw [z, i3] at n2; cases n2
  have r13 : RO a H (upd H4 a (.ins (CE K) dx (putF "rows" (.ref d2) [("classes", .ref d1)]))) := RO.tr r12 (RO.tr (RO.of e4) RO.upd)
  have hd5 : (upd H4 a (.ins (CE K) dx (putF "rows" (.ref d2) [("classes", .ref d1)]))) d2 = some (.dK []) := by rw [upd_ne ne2]; exact hd2
  generalize hH5 : upd H4 a (.ins (CE K) dx (putF "rows" (.ref d2) [("classes", .ref d1)])) = H5 at r13 hd5
  have i5 : H5 a = some (.ins (CE K) dx [("classes", .ref d1), ("rows", .ref d2)]) := by rw [← hH5]; exact upd_same
  have nH2 : H d2 = none := by
    cases q : H d2 with
    | none => rfl
    | some o => have := r12 _ _ ne2 q; rw [n2] at this; cases this
  have ho5 : Dp K H5 ov (.tuple (st.obs.map dOb)) := dp_ri r13 hins ho
  have hs5 : Hs K st.sch sv H5 := fz_ro r13 hins hs
  refine bs_forT (g := gTup K 3 (gCons (gName 5) (gCons (gName 6) (gCons (gName 7) gNil)))) rlEx PassesOwn.never rfl (vd 4 ho5) (pg_tup (X := _) rfl (pgs_cons (pg_name (i := 5) sc_PlainEvaluator_init.nd rfl (.inl rfl)) (pgs_cons (pg_name (i := 6) sc_PlainEvaluator_init.nd rfl (.inl rfl)) (pgs_cons (pg_name (i := 7) sc_PlainEvaluator_init.nd rfl (.inl rfl)) pgs_nil))))
    (fun xs H6 i σ' H' => ∃ b c d, σ' = [some (.ref a), some (.ref pa), some sv, some (.int st.lim), some ov, b, c, d, none, none] ∧ RN d2 H5 H' ∧ RN d2 H6 H' ∧ RowsTo K st d2 i H')
    (fun _ xs H6 e6 _ _ => ⟨_, _, _, rfl, (rlRN d2).ex e6, (rlRN d2).refl _, [], e6 _ _ hd5, Nat.le_refl _, fun k o hk => by omega⟩) (fun b xs H6 i σ' H' hq _ ⟨_, _, _, _, _, r, _⟩ => (rlRN d2).sqT r hq) ?_ ?_
  · rintro b xs H6 i x σ' H' e6 hq6 hd6 hx ⟨b1, b2, b3, rfl, rn, rn6, rws, hr1, hr2, hr3⟩
    obtain ⟨d, hdi, hdx⟩ := DpAll.getV hd6 hx
    obtain ⟨o, hoi, rfl⟩ := map_get hdi
    have hdx : Dp K H' x (.tuple [.int (o.n : Int), .str o.c, .tuple (o.vs.map dV)]) := (rlRN d2).dp rn6 hdx
    obtain ⟨fm, hfm, hv1, hv2⟩ := obs o (List.mem_of_getElem? hoi)
    have fok : formOk fm := forms _ (fnd_in hfm)
    have lfm : fm.length < 1000 := fok.2.2
    have hrow : rowAt st o = rowOf fm o.vs := by unfold rowAt fmAt; rw [hfm]; rfl
    have hs' : Hs K st.sch sv H' := mo_fz (rlRN d2) _ _ _ rn hs5
    refine g3t hdx fun w1 w2 w3 p1 p2 p3 => ?_
    refine bs_dput (d := d2) (φ := DicN K H' (((fm.zip o.vs).filter fun _ => true).map fun p : (Str × Kd) × Vl => ((Sum.inr p.1.1 : Key), dV p.2))) (ψ := Hd K (.int (o.n : Int))) hr (de_dcN (own := [("own", 8), ("value", 9)]) (g := gTup K 2 (gCons (gName 8) (gCons (gName 9) gNil))) (bo := fun _ : (Str × Kd) × Vl => true) (ky := fun p : (Str × Kd) × Vl => Sum.inr p.1.1) (eo := fun p : (Str × Kd) × Vl => dV p.2) rfl sc_PlainEvaluator_init.nd (blkOk_by (N := ["self", "plain", "schema", "limit", "objects", "number", "cls", "values", "own", "value"]) (sc := defScope s_PlainEvaluator_init) (by decide +kernel))
      (src_zipT (l := fm) (m := o.vs) (f := dFld) (g := dV) rlEx rfl T.z_zip (de_is (cE (f_form_of T) (st.sch, o.c) hr trivial (ar2 (vd 2 (hs_dp hs')) (vd 6 p2))) (by show opt dForm (fnd o.c st.sch) = _; rw [hfm]; rfl)) (vd 7 p3)) (by rw [List.length_zip]; omega) (fun p _ => by cases p.2 <;> rfl) ?_
      (fun _ _ _ _ _ => pg_tup (X := _) rfl (pgs_cons (pg_name (i := 8) sc_PlainEvaluator_init.nd rfl (.inl rfl)) (pgs_cons (pg_name (i := 9) sc_PlainEvaluator_init.nd rfl (.inl rfl)) pgs_nil))) gm_2
      fun p y H7 _ _ hy => g2 hy fun v1 v2 q1 q2 => ⟨rfl, Ex.rfl' _, fun _ _ _ _ _ => dts_nil rlEx rfl, fun _ H8 e8 => ⟨fun _ _ _ _ _ => de_imp (φ := Hd K (.str p.1.1)) (de_ixT (ds := [.str p.1.1, dK p.1.2]) rlEx (vd 8 (rlEx.dp e8 q1)) (de_int rlEx) rfl) (fun _ _ _ h => dp_str h) rlEx, fun H9 e9 _ _ _ _ _ => vd 9 (rlEx.dp e9 q2)⟩⟩)
      mo_dicN (de_fld (C := CE K) (fs := [("classes", .ref d1), ("rows", .ref d2)]) rlEx (de_var (i := 0) rlEx rfl (mo_ins rlEx) ⟨a, dx, rfl, rn _ _ i5 (.inl (Ne.symm ne2))⟩ rfl (.inl rfl)) E'.cls E'.nR (by rfl)) (vd 5 p1) fun dv y H9 e9 hdv hy => ?_
    · rw [List.filter_eq_self.mpr (fun _ _ => rfl)]
      have e : ((fm.zip o.vs).map fun p : (Str × Kd) × Vl => (Sum.inr p.1.1 : Key)) = ((rowOf fm o.vs).map (·.1)).map Sum.inr := by
        unfold rowOf
        rw [List.map_map, List.map_map]
        rfl
      rw [e, rowOf_keys hv1]
      exact List.Pairwise.map _ (fun a b h e => h (Sum.inr.inj e)) (form_nodup fok)
    obtain ⟨r, kvs, rfl, nr, hkr, hdr⟩ := hdv
    obtain rfl := dp_int hy
    have h9 := e9 _ _ hr1
    have hi : i < st.obs.length := (List.getElem?_eq_some_iff.mp hoi).1
    refine ⟨_, DPut.k (k := .inl (o.n : Int)) h9 (by omega), bs_nil ?_⟩
    have u9 : RN d2 H' (upd H9 d2 (.dK (putK rws (.inl (o.n : Int)) (.ref r)))) := (rlRN d2).trans ((rlRN d2).ex e9) (rn_updK h9)
    have ner : r ≠ d2 := fun z => by rw [z, hr1] at nr; cases nr
    have u99 := rn_updK (o := .dK (putK rws (.inl (o.n : Int)) (.ref r))) h9
    refine ⟨_, _, _, rfl, (rlRN d2).trans rn u9, (rlRN d2).trans rn6 u9, _, upd_same, ?_, fun k o' hk ho' => ?_⟩
    · have := length_putK rws (.inl (o.n : Int)) (.ref r)
      omega
    · by_cases z : k = i
      · subst z
        rw [hoi] at ho'
        cases ho'
        refine ⟨r, kvs, by rw [valV_put, if_pos rfl], ner, by rw [upd_ne ner]; exact hkr, ?_⟩
        have g := hdr.mono (rlRN d2) u99
        rw [List.filter_eq_self.mpr (fun _ _ => rfl)] at g
        rw [hrow]
        unfold rowOf
        rw [List.map_map]
        exact g
      · obtain ⟨r', kvs', z1, z2, z3, z4⟩ := hr3 k o' (by omega) ho'
        have nn : o'.n ≠ o.n := fun e => by
          have m1 : (st.obs.map (·.n))[k]? = some o'.n := by rw [List.getElem?_map, ho']; rfl
          have m2 : (st.obs.map (·.n))[i]? = some o.n := by rw [List.getElem?_map, hoi]; rfl
          exact z ((List.getElem?_inj (List.getElem?_eq_some_iff.mp m1).1 nums).mp (by rw [m1, m2, e]))
        refine ⟨r', kvs', by rw [valV_put, if_neg (fun e => nn (by have := Sum.inl.inj e; omega))]; exact z1, z2, by rw [upd_ne z2]; exact e9 _ _ z3, z4.mono (rlRN d2) u9⟩
  · rintro b xs H6 σ' H' e6 hq6 hd6 ⟨b1, b2, b3, rfl, rn, rn6, rws, hr1, hr2, hr3⟩
    have i6 := rn _ _ i5 (.inl (Ne.symm ne2))
    refine bs_fld (C := CE K) (φ := fun v H9 => ∃ d3, v = .ref d3 ∧ H' d3 = none ∧ H9 d3 = some (.dT [])) (PE.imp pe_dnewT fun σ' H' Q' ⟨q1, q2, k⟩ p hp => k _ _ (Ex.new hp) ⟨p, rfl, Ex.back q2 hp, upd_same⟩) (fun v b c e ⟨d2, q1, q2, q3⟩ => ⟨d2, q1, q2, e _ _ q3⟩) (de_var (i := 0) rlEx rfl mo_v rfl rfl (.inl rfl)) i6 E'.cls E'.nN (by simp) fun dv3 H9 e9 hd3 => ?_
    obtain ⟨d3, rfl, n3, hd3⟩ := hd3
    have ne3 : d3 ≠ a := fun z => by rw [z, i6] at n3; cases n3
    have ne23 : d2 ≠ d3 := fun z => by rw [← z, hr1] at n3; cases n3
    have rH : RO a H H' := fun b o nb hb => by
      have nb2 : b ≠ d2 := fun z => by rw [z, nH2] at hb; cases hb
      exact rn _ _ (r13 _ _ nb hb) (.inl nb2)
    refine bs_nil (hQ _ _ (RO.tr rH (RO.tr (RO.of e9) RO.upd)) ⟨rfl, d3, ?_, a, dx, d1, d2, rws, rfl, ?_⟩)
    · show H d3 = none
      cases q : H d3 with
      | none => rfl
      | some o => have := rH _ _ ne3 q; rw [n3] at this; cases this
    · refine ⟨upd_same, by rw [upd_ne ne2]; exact e9 _ _ hr1, ⟨[], by rw [upd_ne ne3]; exact hd3, by decide⟩, fun p hp => ?_⟩
      obtain ⟨o, hom, rfl⟩ := List.mem_map.mp hp
      obtain ⟨k, hk⟩ := List.mem_iff_getElem?.mp hom
      have lk : k < (st.obs.map dOb).length := by rw [List.length_map]; exact (List.getElem?_eq_some_iff.mp hk).1
      obtain ⟨r, kvs, z1, z2, z3, z4⟩ := hr3 k o lk hk
      have ner : r ≠ a := fun z => by rw [z, i6] at z3; cases z3
      refine ⟨r, kvs, z1, by rw [upd_ne ner]; exact e9 _ _ z3, ?_⟩
      exact Paired.mapP z4 fun p q h => ⟨h.1, dp_ri (RO.tr (RO.of e9) RO.upd) i6 h.2⟩
end
end Lf
set_option maxHeartbeats 4000000
/-! K13: number_at, link_at, value_for. -/
namespace Lf
open PySem PySem.Spec L2
open PyProof.Rows hiding St
theorem dp_ints_eq {K : Fg} {H : Hp} : ∀ {ws : List Int} {xs : List V}, DpAll K H xs (ws.map PyData.int) → xs = ws.map V.int
  | [], _, h => by cases h; rfl
  | y :: ws, _, h => by
    cases h with
    | cons h1 h2 =>
      cases dp_int h1
      rw [dp_ints_eq h2]; rfl
theorem inV_ints {x : Int} : ∀ {ws : List Int}, inV (.int x) (ws.map V.int) = decide (x ∈ ws)
  | [] => rfl
  | y :: ws => by
    have t := inV_ints (x := x) (ws := ws)
    unfold inV at t ⊢
    rw [List.map_cons, List.any_cons, t]
    by_cases e : y = x
    · subst e
      simp [eqV]
    · have : ¬ x = y := fun z => e z.symm
      simp [eqV, e, this]
/-- an int not among ints -/
theorem dt_notInI {X : Cx} {R : Rel} {σ : St} {H : Hp} {a b : Expr} {pos : Pos} {x : Int} {ws : List Int} (r : Rl R) (ha : PE X a (tG R σ H (Hd X.K (.int x)))) (hb : PE X b (tG R σ H (Hd X.K (.list (ws.map PyData.int))))) (hm : behindInMarks .NotIn b = false := by rfl) : PT X (.Compare a [.NotIn] [b] pos) (tT R σ H (!decide (x ∈ ws))) :=
  dt_cmp r op_notIn_seq ha (mo_d r) hb hm fun u v H2 _ p q Q k => by
    cases dp_int p
    obtain ⟨l, xs, rfl, hs, hd⟩ := dp_lst q
    have e := dp_ints_eq hd
    subst e
    exact ⟨l, _, rfl, .inl hs, rfl, by rw [List.all_map, List.all_eq_true]; intro _ _; rfl, by rw [inV_ints]; exact k H2 (r.refl _)⟩
section
variable {P : Program} {w : World} {K : Fg} {mg : Str → Option Value} {base : Heap}
abbrev spReqO (K : Fg) : Sp := spT (fun _ => Ex) (fun x : Sto × Nat => x.2 ∈ x.1.obs.map (·.n) ∧ x.1.obs.length < 900) (fun x => [Hd K (dSto x.1), Hd K (.int (x.2 : Int))]) (fun _ => Hd K .none)
theorem f_require_object (T : Tx K mg) : Fnc P w K mg base 3 "require_object" (spReqO K) := by
  refine ⟨T.g_require_object, fna_of T.d_require_object sc_require_object bn_require_object (fun _ => rfl) fun cdv A0 outer s H E x vs Q hr ok ha hQ => ?_⟩
  obtain ⟨st, n⟩ := x
  obtain ⟨v, u, rfl, h1, h2⟩ := all2 ha
  obtain ⟨o1, o2⟩ := ok
  have o2 : st.obs.length < 900 := o2
  have h1 : Dp K H v (.tuple [dSch st.sch, .int st.lim, .tuple (st.obs.map dOb)]) := h1
  have h2 : Dp K H u (.int (n : Int)) := h2
  have big : 1000 ≤ sizeLine := by decide
  refine bs_when (t := false) rlEx (dt_is (dt_w (dw_or (c := false) (c' := false) rlEx (dt_is (dt_not (dt_val rlEx (cE (f_is_number T) (n : Int) hr trivial (ar1 (vd 1 h2))))) ?_) fun _ =>
    dw_or1 (dt_is (dt_notInI (x := (n : Int)) (ws := st.obs.map fun o => (o.n : Int)) rlEx (vd 1 h2) ?_) ?_))) rfl) (fun z => by cases z) fun _ H1 e1 => bs_nil (hQ _ _ e1 .non)
  · simp
  · refine de_is (d := .list (st.obs.map fun o : Ob => PyData.int (o.n : Int))) ?_ (by rw [List.map_map]; rfl)
    exact de_lcM (own := [("own", 2)]) (g := gName 2) (eo := fun o : Ob => PyData.int (o.n : Int)) rlEx rfl sc_require_object.nd (blkOk_by (N := ["plain", "number", "own"]) (sc := defScope s_require_object) (by decide +kernel)) (src_tup (src := st.obs) (f := dOb) rlEx (de_ixT (d := .tuple (st.obs.map dOb)) rlEx (vd 0 h1) (de_int rlEx) rfl)) (by omega) (fun _ _ => rfl)
      (fun _ _ _ _ _ => pg_name (i := 2) sc_require_object.nd rfl (.inl rfl)) gm_name fun o y H3 _ _ hy => ⟨rfl, Ex.rfl' _, fun H4 e4 _ _ _ _ _ => de_ixT (ds := [.int (o.n : Int), .str o.c, .tuple (o.vs.map dV)]) rlEx (vd 2 (rlEx.dp e4 hy)) (de_int rlEx) rfl⟩
  · obtain ⟨o, m, e⟩ := List.mem_map.mp o1
    have z : (n : Int) ∈ st.obs.map fun o => (o.n : Int) := List.mem_map.mpr ⟨o, m, congrArg Int.ofNat e⟩
    rw [decide_eq_true z]; rfl
/-- an expression's value at an object -/
def evAt (st : Sto) (o : Ob) (v : Vl) : Ek → Prop
  | .num z => v = some z
  | .get f => fnd f (rowAt st o) = some v
  | .to f => fnd f (rowAt st o) = some v
def isLnk : Ek → Bool
  | .to _ => true
  | _ => false
structure NaX where
  st : Sto
  o : Ob
  e : Ek
  v : Vl
structure NaX.ok (x : NaX) : Prop where
  st : StoOk x.st
  o : x.o ∈ x.st.obs
  e : evAt x.st x.o x.v x.e
theorem NaX.okA {x : NaX} (h : x.ok) (l : isLnk x.e = false) (d3 : Addr) : AmX.okA ⟨d3, stRows x.st, x.o.n, rowAt x.st x.o, x.e, x.v⟩ := by
  obtain ⟨st, o, e, v⟩ := x
  have m : (o.n, rowAt st o) ∈ stRows st := List.mem_map.mpr ⟨o, h.o, rfl⟩
  have z := h.e
  cases e with
  | num i => exact z
  | get f => exact ⟨m, z⟩
  | to f => cases l
theorem NaX.okL {x : NaX} (h : x.ok) (l : isLnk x.e = true) (d3 : Addr) : AmX.okL ⟨d3, stRows x.st, x.o.n, rowAt x.st x.o, x.e, x.v⟩ := by
  obtain ⟨st, o, e, v⟩ := x
  have m : (o.n, rowAt st o) ∈ stRows st := List.mem_map.mpr ⟨o, h.o, rfl⟩
  have z := h.e
  cases e with
  | num i => cases l
  | get f => cases l
  | to f => exact ⟨m, z⟩
/-- the evaluator, made on the spot -/
theorem ev_made (T : Tx K mg) (E' : Tv K mg) {X : Cx} {σ : St} {H : Hp} {e : Expr} {p pos : Pos} {j : Nat} {st : Sto} (hr : Room j X.A) (hk : 3 ≤ j) (ok : StoOk st) (he : PE X e (tG Ex σ H (HSto X.K st))) (hg : Gl X "PlainEvaluator") (hK : X.K = K) (hm : X.mg = mg) (he1 : starEach [e] X.env = (false, eval e X.env) :: starEach [] X.env := by rfl) (hpl : (backTo pos (starEach [] X.env)).any (·.1) = false := by rfl) :
    PE X (.Call (.Name "PlainEvaluator" p) [e] [] pos) (tG Ex σ H (fun v H' => ∃ d3, H d3 = none ∧ IsEv X.K d3 (stRows st) v H')) := by
  subst hK hm
  refine de_make E'.make (f_ev_init T E') (fun a H0 => ⟨a, H0, st⟩) hr hk hg E'.g (da_cons rlEx (mo_sto rlEx) he (da_nil rlEx) he1) (fun a dx vs H1 h1 q n1 n2 ne H2 eH => ⟨ok, ?_, fun v H3 r3 b3 => ?_⟩) (by decide) he1 hpl
  · obtain ⟨u, rfl, hu⟩ := all1 q
    have ex : Ex H1 H2 := by rw [eH]; exact (Ex.new n2).tr (Ex.new (by rw [upd_ne (Ne.symm ne)]; exact n1))
    exact all2_cons ⟨rfl, rfl, dx, by rw [eH]; exact upd_same⟩ (all2_cons (mo_sto rlEx _ _ _ ex hu) rfl)
  · obtain ⟨ev, d3, n3, hev⟩ := b3
    have ex : Ex H1 H2 := by rw [eH]; exact (Ex.new n2).tr (Ex.new (by rw [upd_ne (Ne.symm ne)]; exact n1))
    refine ⟨ev, RO.ex ex n1 ?_, d3, Ex.back (h1.tr ex) n3, hev⟩
    intro b o nb hb
    exact r3 b o nb hb
abbrev spNumAt (K : Fg) : Sp := spT (fun _ => Ex) (fun x : NaX => x.ok ∧ isLnk x.e = false) (fun x => [HSto K x.st, Hd K (.int (x.o.n : Int)), Hd K (dE x.e)]) (fun x => Hd K (dV x.v))
abbrev spLnkAt (K : Fg) : Sp := spT (fun _ => Ex) (fun x : NaX => x.ok ∧ isLnk x.e = true) (fun x => [HSto K x.st, Hd K (.int (x.o.n : Int)), Hd K (dE x.e)]) (fun x => Hd K (dV x.v))
theorem f_number_at (T : Tx K mg) (E' : Tv K mg) : Fnc P w K mg base 4 "number_at" (spNumAt K) := by
  refine ⟨T.g_number_at, fna_of T.d_number_at sc_number_at bn_number_at (fun _ => rfl) fun cdv A0 outer s H E x vs Q hr ok ha hQ => ?_⟩
  obtain ⟨v, u, t, rfl, h1, h2, h3⟩ := all3 ha
  obtain ⟨ok, lk⟩ := ok
  refine bs_expr rlEx (cE (f_require_object T) (x.st, x.o.n) hr ⟨List.mem_map.mpr ⟨_, ok.o, rfl⟩, ok.st.few.2⟩ (ar2 (vd 0 (sto_dp h1)) (vd 1 h2))) fun _ H1 e1 _ => ?_
  refine bs_ret (φ := Hd K (dV x.v)) (de_exact fun H2 e2 => dx_methN (C := CE K) (f_amount T E') hr (by decide) (ev_made T E' hr (by decide) ok.st (de_var (i := 0) rlEx rfl (mo_sto rlEx) (mo_sto rlEx _ _ _ (e1.tr e2) h1) rfl (.inl rfl)) rfl rfl rfl) E'.cls E'.amount (fun H3 e3 => ar2 (vdm 1 h2 ((e1.tr e2).tr e3)) (vdm 2 h3 ((e1.tr e2).tr e3))) fun v' H3 e3 hv => ?_) rlEx fun v' H4 e4 q => hQ v' H4 (e1.tr e4) q
  obtain ⟨d3, n3, ev⟩ := hv
  obtain ⟨d1, d2, ii⟩ := ev_ins' ev
  exact ⟨_, ⟨d3, stRows x.st, x.o.n, rowAt x.st x.o, x.e, x.v⟩, ii, rfl, NaX.okA ok lk d3, fun vs H4 e4 q => all2_cons (mo_ev _ _ _ e4 ev) q, fun H4 u' H5 e4 r5 b5 => ⟨RN.ex (e3.tr e4) n3 r5, b5⟩⟩
theorem f_link_at (T : Tx K mg) (E' : Tv K mg) : Fnc P w K mg base 4 "link_at" (spLnkAt K) := by
  refine ⟨T.g_link_at, fna_of T.d_link_at sc_link_at bn_link_at (fun _ => rfl) fun cdv A0 outer s H E x vs Q hr ok ha hQ => ?_⟩
  obtain ⟨v, u, t, rfl, h1, h2, h3⟩ := all3 ha
  obtain ⟨ok, lk⟩ := ok
  refine bs_expr rlEx (cE (f_require_object T) (x.st, x.o.n) hr ⟨List.mem_map.mpr ⟨_, ok.o, rfl⟩, ok.st.few.2⟩ (ar2 (vd 0 (sto_dp h1)) (vd 1 h2))) fun _ H1 e1 _ => ?_
  refine bs_ret (φ := Hd K (dV x.v)) (de_exact fun H2 e2 => dx_methN (C := CE K) (f_link T E') hr (by decide) (ev_made T E' hr (by decide) ok.st (de_var (i := 0) rlEx rfl (mo_sto rlEx) (mo_sto rlEx _ _ _ (e1.tr e2) h1) rfl (.inl rfl)) rfl rfl rfl) E'.cls E'.link (fun H3 e3 => ar2 (vdm 1 h2 ((e1.tr e2).tr e3)) (vdm 2 h3 ((e1.tr e2).tr e3))) fun v' H3 e3 hv => ?_) rlEx fun v' H4 e4 q => hQ v' H4 (e1.tr e4) q
  obtain ⟨d3, n3, ev⟩ := hv
  obtain ⟨d1, d2, ii⟩ := ev_ins' ev
  exact ⟨_, ⟨d3, stRows x.st, x.o.n, rowAt x.st x.o, x.e, x.v⟩, ii, rfl, NaX.okL ok lk d3, fun vs H4 e4 q => all2_cons (mo_ev _ _ _ e4 ev) q, fun H4 u' H5 e4 r5 b5 => ⟨RN.ex (e3.tr e4) n3 r5, b5⟩⟩
end
end Lf
set_option maxHeartbeats 4000000
/-! Lay13: list(zip(s, t)) of two tuples. -/
namespace Lf
open PySem PySem.Spec L2
open PyProof.Rows hiding St
section
variable {prog : Program} {w : World} {A : Around} {E : Value → Shared → Prop} {s : Shared}
/-- next of a zip of two tuples whose last pair is still out -/
theorem zt_held {z TI TO T i1 i2 l1 l2 : Addr} {f : Bool} {oT : Obj} {k : Nat} {xs ys : Array Value} {x y : Value} {Q : Value → Shared → Prop} (D : ZipApart z TI TO i1 i2 l1 l2) (hz : PySem.IsZipHeld s.heap z TI TO T f) (hT : s.heap.get? T = some oT) (hTI : IsPair s.heap TI (.ref i1) (.ref i2))
    (it1 : s.heap.IsTupleIter i1 l1 k) (it2 : s.heap.IsTupleIter i2 l2 k) (tu1 : s.heap.IsTuple l1 xs) (tu2 : s.heap.IsTuple l2 ys) (hx : xs[k]? = some x) (hy : ys[k]? = some y)
    (go : ∀ h', PySem.IsZipHeld h' z TI TO T true → h'.IsTupleIter i1 l1 (k + 1) → h'.IsTupleIter i2 l2 (k + 1) → IsPair h' s.heap.objs.size x y → h'.objs.size = s.heap.objs.size + 1 → (∀ c o, c ≠ z → c ≠ i1 → c ≠ i2 → s.heap.get? c = some o → h'.get? c = some o) → Q (.ref s.heap.objs.size) { s with heap := h' }) :
    wpAny (model prog w) A (Builtin.«zip.__next__» ⟨[.ref z], []⟩) (fun fin s' => ∃ v, fin = .done (.ret v) ∧ Q v s') E s := by
  show wpAny _ _ (field (.ref z) 2 >>= _) _ E s
  refine wpAny_bind (wpAny_field hz rfl (x := .bool false) rfl (show wpAny _ _ (field (.ref z) 3 >>= _) _ E s from wpAny_bind (wpAny_field hz rfl (x := .ref TI) rfl (wpAny_bind (wpAny_seqItems hTI rfl ?_)))))
  show wpAny _ _ (Builtin.SmallTypes.ownedTupleIsFree (.ref z) >>= _) _ E s
  refine wpAny_bind (PySem.wpAny_tupleHeld_zip hz hT fun g1 z1 b1 => ?_)
  simp only [Bool.false_eq_true, if_false]
  refine wpAny_bind ?_
  rw [← Array.forIn_toList]
  simp only [List.forIn_cons, List.forIn_nil]
  refine wpAny_bind (wpAny_bind (wpAny_holding (show wpAny _ _ (Builtin.SmallTypes.nextOf (.ref i1) >>= _) _ E _ from wpAny_bind (RZ.nextOf_tuple_item (s := { s with heap := g1 }) (it1.extBut b1.extBut D.i1z) (tu1.extBut b1.extBut D.l1z) hx fun g2 a2 b2 => wpAny_pure (wpAny_pure ?_)))))
  refine wpAny_bind (wpAny_bind (wpAny_holding (show wpAny _ _ (Builtin.SmallTypes.nextOf (.ref i2) >>= _) _ E _ from wpAny_bind (RZ.nextOf_tuple_item (s := { s with heap := g2 }) ((it2.extBut b1.extBut D.i2z).extBut b2.extBut D.i12.symm) ((tu2.extBut b1.extBut D.l2z).extBut b2.extBut D.l2i1) hy fun g3 a3 b3 => wpAny_pure (wpAny_pure (wpAny_pure ?_))))))
  show wpAny _ _ (newTuple [x, y] >>= _) _ E _
  refine wpAny_bind (wpAny_newTuple (wpAny_pure ⟨_, rfl, ?_⟩))
  have sz : g3.objs.size = s.heap.objs.size := by rw [b3.1, b2.1, b1.1]
  have np : IsPair (g3.push { cls := .type "tuple", data := .seq #[x, y] }) g3.objs.size x y := Heap.get?_push_size _ rfl
  have ns : (g3.push { cls := .type "tuple", data := .seq #[x, y] }).objs.size = g3.objs.size + 1 := Heap.size_push ..
  show Q (.ref g3.objs.size) _
  rw [sz] at np ns ⊢
  refine go _ (Heap.get?_push_of_some _ (b3.extBut _ _ D.i2z.symm (b2.extBut _ _ D.i1z.symm z1))) ((a2.extBut b3.extBut D.i12).at fun o e => Heap.get?_push_of_some _ e) (a3.at fun o e => Heap.get?_push_of_some _ e) np ns fun c o n1 n2 n3 e => Heap.get?_push_of_some _ (b3.extBut _ _ n3 (b2.extBut _ _ n2 (b1.extBut _ _ n1 e)))
theorem zt_heldEnd {z TI TO T i1 i2 l1 l2 : Addr} {f : Bool} {oT : Obj} {k : Nat} {xs ys : Array Value} {Q : PySem.Fin → Shared → Prop} (hh : A.handled = none) (D : ZipApart z TI TO i1 i2 l1 l2) (hz : PySem.IsZipHeld s.heap z TI TO T f) (hT : s.heap.get? T = some oT) (hTI : IsPair s.heap TI (.ref i1) (.ref i2))
    (it1 : s.heap.IsTupleIter i1 l1 k) (it2 : s.heap.IsTupleIter i2 l2 k) (tu1 : s.heap.IsTuple l1 xs) (tu2 : s.heap.IsTuple l2 ys) (ends : xs[k]? = none ∨ ys[k]? = none)
    (stop : ∀ h' e, (∀ c o, c ≠ z → c ≠ i1 → c ≠ i2 → s.heap.get? c = some o → h'.get? c = some o) → (∃ o, h'.get? e = some o ∧ o.cls = .type "StopIteration") → E (.ref e) { s with heap := h' }) :
    wpAny (model prog w) A (Builtin.«zip.__next__» ⟨[.ref z], []⟩) Q E s := by
  show wpAny _ _ (field (.ref z) 2 >>= _) _ E s
  refine wpAny_bind (wpAny_field hz rfl (x := .bool false) rfl (show wpAny _ _ (field (.ref z) 3 >>= _) _ E s from wpAny_bind (wpAny_field hz rfl (x := .ref TI) rfl (wpAny_bind (wpAny_seqItems hTI rfl ?_)))))
  show wpAny _ _ (Builtin.SmallTypes.ownedTupleIsFree (.ref z) >>= _) _ E s
  refine wpAny_bind (PySem.wpAny_tupleHeld_zip hz hT fun g1 z1 b1 => ?_)
  simp only [Bool.false_eq_true, if_false]
  refine wpAny_bind ?_
  rw [← Array.forIn_toList]
  simp only [List.forIn_cons, List.forIn_nil]
  refine wpAny_bind (wpAny_bind (wpAny_holding (show wpAny _ _ (Builtin.SmallTypes.nextOf (.ref i1) >>= _) _ E _ from ?_)))
  cases hx : xs[k]? with
  | none => exact wpAny_bind (RZ.nextOf_tuple_end (s := { s with heap := g1 }) hh (it1.extBut b1.extBut D.i1z) (tu1.extBut b1.extBut D.l1z) hx fun g2 e b2 he => stop g2 e (fun c o n1 n2 _ q => b2 _ _ n2 (b1.extBut _ _ n1 q)) he)
  | some x =>
    have hy : ys[k]? = none := by rcases ends with q | q; rw [hx] at q; cases q; exact q
    refine wpAny_bind (RZ.nextOf_tuple_item (s := { s with heap := g1 }) (it1.extBut b1.extBut D.i1z) (tu1.extBut b1.extBut D.l1z) hx fun g2 a2 b2 => wpAny_pure (wpAny_pure ?_))
    refine wpAny_bind (wpAny_bind (wpAny_holding (show wpAny _ _ (Builtin.SmallTypes.nextOf (.ref i2) >>= _) _ E _ from ?_)))
    exact wpAny_bind (RZ.nextOf_tuple_end (s := { s with heap := g2 }) hh ((it2.extBut b1.extBut D.i2z).extBut b2.extBut D.i12.symm) ((tu2.extBut b1.extBut D.l2z).extBut b2.extBut D.l2i1) hy fun g3 e b3 he => stop g3 e (fun c o n1 n2 n3 q => b3 _ _ n3 (b2.extBut _ _ n2 (b1.extBut _ _ n1 q))) he)

/-- a zip of two tuples ahead of turn k; what it gave out lies above S -/
def ZLp (h : Heap) (z TI TO i1 i2 l1 l2 S : Addr) (k : Nat) : Prop := IsPair h TI (.ref i1) (.ref i2) ∧ h.IsTupleIter i1 l1 k ∧ h.IsTupleIter i2 l2 k ∧ ((IsZip h z TI TO .none ∧ ∃ a b, IsPair h TO a b) ∨ ∃ (T : Addr) (f : Bool) (oT : Obj), PySem.IsZipHeld h z TI TO T f ∧ h.get? T = some oT ∧ S < T)
theorem ZLp.ty {z TI TO i1 i2 l1 l2 S : Addr} {k : Nat} (h : ZLp s.heap z TI TO i1 i2 l1 l2 S k) : s.TypeIs (.ref z) "zip" := by
  obtain ⟨_, _, _, h | h⟩ := h
  · exact ⟨_, h.1, rfl⟩
  · obtain ⟨T, f, oT, h, _⟩ := h
    exact ⟨_, h, rfl⟩
theorem ZLp.kept {z TI TO i1 i2 l1 l2 S : Addr} {k : Nat} {h h' : Heap} (Z : ZLp h z TI TO i1 i2 l1 l2 S k) (kp : ∀ b o, b ≠ S → h.get? b = some o → h'.get? b = some o) (n1 : z ≠ S) (n2 : TI ≠ S) (n3 : TO ≠ S) (n4 : i1 ≠ S) (n5 : i2 ≠ S) : ZLp h' z TI TO i1 i2 l1 l2 S k := by
  obtain ⟨a, b, c, d⟩ := Z
  refine ⟨kp _ _ n2 a, b.at fun o e => kp _ o n4 e, c.at fun o e => kp _ o n5 e, d.imp (fun ⟨x, y1, y2, y3⟩ => ⟨kp _ _ n1 x, y1, y2, kp _ _ n3 y3⟩) fun ⟨T, f, oT, x, y, q⟩ => ⟨T, f, oT, kp _ _ n1 x, kp _ _ (Nat.ne_of_gt q) y, q⟩⟩
/-- one turn -/
theorem zt_next {z TI TO i1 i2 l1 l2 S : Addr} {k : Nat} {xs ys : Array Value} {x y : Value} {Q : Option Value → Shared → Prop} (D : ZipApart z TI TO i1 i2 l1 l2) (Z : ZLp s.heap z TI TO i1 i2 l1 l2 S k) (hS : S < s.heap.objs.size) (hz : z < S)
    (tu1 : s.heap.IsTuple l1 xs) (tu2 : s.heap.IsTuple l2 ys) (hx : xs[k]? = some x) (hy : ys[k]? = some y)
    (go : ∀ h', ZLp h' z TI TO i1 i2 l1 l2 S (k + 1) → IsPair h' s.heap.objs.size x y → h'.objs.size = s.heap.objs.size + 1 → (∀ c o, c ≠ z → c ≠ TO → c ≠ i1 → c ≠ i2 → s.heap.get? c = some o → h'.get? c = some o) → Q (some (.ref s.heap.objs.size)) { s with heap := h' }) :
    wpAny (model prog w) A (pyNext (.ref z)) Q E s := by
  have ty := Z.ty
  obtain ⟨a, it1, it2, ⟨d, p, q, hp⟩ | ⟨T, f, oT, d, hT, hST⟩⟩ := Z
  · exact RZ.pyNext_zipT_item D d a hp it1 it2 tu1 tu2 hx hy fun h' z' _ a1 a2 np ns kp => go h' ⟨kp _ _ D.TIz D.TITO D.TIi1 D.TIi2 a, a1, a2, .inr ⟨_, false, _, z', np, hS⟩⟩ np ns kp
  · have alive : ∀ c, c ≤ z → T ≠ c := fun c hc e => absurd (Nat.lt_of_lt_of_le (Nat.lt_trans hz hST) (Nat.le_of_eq e)) (Nat.not_lt.mpr hc)
    unfold pyNext
    refine wpAny_bind (wpAny_attempt (wpAny_callSpecial?_slot (name := Str.ofString "__next__") ty F.slot_zip_next (wpAny_call_entry F.slot_zip_next ty F.entry_zip_next (zt_held D d hT a it1 it2 tu1 tu2 hx hy fun h' z' a1 a2 np ns kp => wpAny_pure ?_) (F.args_zip_next_1 _))))
    refine go h' ⟨kp _ _ D.TIz D.TIi1 D.TIi2 a, a1, a2, ?_⟩ np ns fun c o n1 _ n3 n4 e => kp c o n1 n3 n4 e
    by_cases e1 : T = i1
    · obtain ⟨o1, ho1, _⟩ := a1
      exact .inr ⟨T, true, o1, z', by rw [e1]; exact ho1, hST⟩
    · by_cases e2 : T = i2
      · obtain ⟨o1, ho1, _⟩ := a2
        exact .inr ⟨T, true, o1, z', by rw [e2]; exact ho1, hST⟩
      · exact .inr ⟨T, true, oT, z', kp _ _ (alive z (Nat.le_refl _)) e1 e2 hT, hST⟩
theorem zt_end {z TI TO i1 i2 l1 l2 S : Addr} {k : Nat} {xs ys : Array Value} {Q : Option Value → Shared → Prop} (hh : A.handled = none) (D : ZipApart z TI TO i1 i2 l1 l2) (Z : ZLp s.heap z TI TO i1 i2 l1 l2 S k)
    (tu1 : s.heap.IsTuple l1 xs) (tu2 : s.heap.IsTuple l2 ys) (ends : xs[k]? = none ∨ ys[k]? = none) (go : ∀ h', (∀ c o, c ≠ z → c ≠ TO → c ≠ i1 → c ≠ i2 → s.heap.get? c = some o → h'.get? c = some o) → Q none { s with heap := h' }) :
    wpAny (model prog w) A (pyNext (.ref z)) Q E s := by
  have ty := Z.ty
  obtain ⟨a, it1, it2, ⟨d, p, q, hp⟩ | ⟨T, f, oT, d, hT, hST⟩⟩ := Z
  · exact RZ.pyNext_zipT_end hh D d a hp it1 it2 tu1 tu2 ends go
  · unfold pyNext
    refine wpAny_bind (wpAny_attempt (wpAny_callSpecial?_slot (name := Str.ofString "__next__") ty F.slot_zip_next (wpAny_call_entry F.slot_zip_next ty F.entry_zip_next (zt_heldEnd hh D d hT a it1 it2 tu1 tu2 ends fun h' e kp he => ?_) (F.args_zip_next_1 _))))
    obtain ⟨o, ho, hc⟩ := he
    exact wpAny_bind (wpAny_isInstance (T := "StopIteration") (b := true) ⟨o, ho, hc⟩ isSubtype_stop (wpAny_pure (go _ fun c o n1 _ n3 n4 e => kp c o n1 n3 n4 e)))
end
/-- the pairs so far: addresses above S -/
structure PrsAt (xs ys : Array Value) (S : Addr) (h : Heap) (as : List Addr) : Prop where
  rise : as.Pairwise (· < ·)
  up : ∀ a ∈ as, S < a
  at_ : ∀ (j : Nat) (a : Addr), as[j]? = some a → ∃ x y, xs[j]? = some x ∧ ys[j]? = some y ∧ IsPair h a x y
section
variable {prog : Program} {w : World} {A : Around} {s : Shared} {R : Result → Shared → Prop} {z TI TO i1 i2 l1 l2 S : Addr} {xs ys : Array Value}
theorem zt_loop (hh : A.handled = none) (D : ZipApart z TI TO i1 i2 l1 l2) (bz : z < S) (b1 : TI < S) (b2 : TO < S) (b3 : i1 < S) (b4 : i2 < S) (b5 : l1 < S) (b6 : l2 < S) (hn : xs.size ≤ sizeLine) (hl : xs.size = ys.size) (res : Value) {h₁ : Heap} (tu1 : h₁.IsTuple l1 xs) (tu2 : h₁.IsTuple l2 ys)
    (hR : ∀ h' tk acc c as, (∀ b o, b ≠ S → b ≠ z → b ≠ TO → b ≠ i1 → b ≠ i2 → h₁.get? b = some o → h'.get? b = some o) → h'.get? S = some { cls := .type "list", dict := none, data := .seq acc c, slots := #[] } → as.length = xs.size → PrsAt xs ys S h' as → acc.toList = as.map Value.ref → R (.ok (.ret res)) { s with heap := h', toks := tk }) :
    ∀ (m k : Nat) (h : Heap) (tk c : Nat) (acc : Array Value) (as : List Addr), xs.size - k = m → k ≤ xs.size → ZLp h z TI TO i1 i2 l1 l2 S k → (∀ b o, b ≠ S → b ≠ z → b ≠ TO → b ≠ i1 → b ≠ i2 → h₁.get? b = some o → h.get? b = some o) →
      h.get? S = some { cls := .type "list", dict := none, data := .seq acc c, slots := #[] } → acc.toList = as.map Value.ref → as.length = k → PrsAt xs ys S h as →
      codeAny (model prog w) A (.builtin "list.extend.loop" ⟨[.ref S, .ref z, res], []⟩) R { s with heap := h, toks := tk } := by
  have nz : z ≠ S := Nat.ne_of_lt bz
  have far : ∀ {c : Addr}, S ≤ c → c ≠ z ∧ c ≠ TO ∧ c ≠ i1 ∧ c ≠ i2 := fun {c} hc => ⟨Nat.ne_of_gt (Nat.lt_of_lt_of_le bz hc), Nat.ne_of_gt (Nat.lt_of_lt_of_le b2 hc), Nat.ne_of_gt (Nat.lt_of_lt_of_le b3 hc), Nat.ne_of_gt (Nat.lt_of_lt_of_le b4 hc)⟩
  intro m
  induction m with
  | zero =>
    intro k h tk c acc as hm hk Z kp hS hacc hal hG
    have t1 : h.IsTuple l1 xs := tu1.at fun o e => kp _ o (Nat.ne_of_lt b5) D.l1z D.l1TO D.l1i1 D.l1i2 e
    have t2 : h.IsTuple l2 ys := tu2.at fun o e => kp _ o (Nat.ne_of_lt b6) D.l2z D.l2TO D.l2i1 D.l2i2 e
    refine codeAny_builtin PySem.F.entry_extend_loop ?_
    rw [Around.under_plainId PySem.F.plain_extend_loop _]
    show wpAny _ A.in1 (pyNext (.ref z) >>= _) _ _ _
    refine wpAny_bind (zt_end (s := { s with heap := h, toks := tk }) (A := A.in1) hh D Z t1 t2 (.inl (Array.getElem?_eq_none (by omega))) fun h' e => ?_)
    obtain ⟨f1, f2, f3, f4⟩ := far (Nat.le_refl S)
    refine wpAny_pure (hR h' tk acc c as (fun b o n1 n2 n3 n4 n5 q => e b o n2 n3 n4 n5 (kp b o n1 n2 n3 n4 n5 q)) (e S _ f1 f2 f3 f4 hS) (by omega) ⟨hG.rise, hG.up, fun j a ha => ?_⟩ hacc)
    obtain ⟨x, y, q1, q2, q3⟩ := hG.at_ j a ha
    obtain ⟨g1, g2, g3, g4⟩ := far (Nat.le_of_lt (hG.up a (List.mem_of_getElem? ha)))
    exact ⟨x, y, q1, q2, e a _ g1 g2 g3 g4 q3⟩
  | succ m ih =>
    intro k h tk c acc as hm hk Z kp hS hacc hal hG
    have lt : k < xs.size := by omega
    have sz : acc.size = k := by rw [← Array.length_toList, hacc, List.length_map, hal]
    have t1 : h.IsTuple l1 xs := tu1.at fun o e => kp _ o (Nat.ne_of_lt b5) D.l1z D.l1TO D.l1i1 D.l1i2 e
    have t2 : h.IsTuple l2 ys := tu2.at fun o e => kp _ o (Nat.ne_of_lt b6) D.l2z D.l2TO D.l2i1 D.l2i2 e
    have hSl : S < h.objs.size := Heap.lt_size hS
    refine codeAny_builtin PySem.F.entry_extend_loop ?_
    rw [Around.under_plainId PySem.F.plain_extend_loop _]
    show wpAny _ A.in1 (pyNext (.ref z) >>= _) _ _ _
    refine wpAny_bind (zt_next (s := { s with heap := h, toks := tk }) D Z hSl bz t1 t2 (x := xs[k]) (y := ys[k]) (Array.getElem?_eq_getElem _) (Array.getElem?_eq_getElem _) fun h' Z' np ns e => ?_)
    obtain ⟨f1, f2, f3, f4⟩ := far (Nat.le_refl S)
    have hS' := e S _ f1 f2 f3 f4 hS
    have up : ∀ b o, b ≠ S → h'.get? b = some o → (h'.update S (Obj.mapSeq (·.push (Value.ref h.objs.size)))).get? b = some o := fun b o hb q => (Heap.get?_update_other _ _ (Ne.symm hb)).trans q
    show wpAny _ A.in1 (updateSeq S (·.push (Value.ref h.objs.size)) >>= _) _ _ _
    refine wpAny_bind (wpAny_updateSeq hS' rfl (wpAny_pure ⟨plainId_quiet PySem.F.plain_extend_loop _, ih (k + 1) _ tk _ (acc.push (Value.ref h.objs.size)) (as ++ [h.objs.size]) (by omega) lt (Z'.kept up nz (Nat.ne_of_lt b1) (Nat.ne_of_lt b2) (Nat.ne_of_lt b3) (Nat.ne_of_lt b4))
      (fun b o n1 n2 n3 n4 n5 q => up b o n1 (e b o n2 n3 n4 n5 (kp b o n1 n2 n3 n4 n5 q))) (Heap.get?_update_self _ hS' rfl) (by rw [Array.toList_push, hacc, List.map_append]; rfl) (by rw [List.length_append, hal]; rfl) ⟨?_, ?_, ?_⟩⟩) (by rw [sz]; omega) (by show (acc.push (Value.ref h.objs.size)).size ≤ sizeLine + 1; rw [Array.size_push, sz]; omega))
    · refine List.pairwise_append.mpr ⟨hG.rise, List.pairwise_singleton _ _, fun a ha b hb => ?_⟩
      rw [List.mem_singleton.mp hb]
      obtain ⟨j, hj⟩ := List.mem_iff_getElem?.mp ha
      obtain ⟨_, _, _, _, q⟩ := hG.at_ j a hj
      exact Heap.lt_size q
    · intro a ha
      rcases List.mem_append.mp ha with ha | ha
      · exact hG.up a ha
      · rw [List.mem_singleton.mp ha]; exact hSl
    · intro j a ha
      rcases Nat.lt_trichotomy j as.length with q | q | q
      · rw [List.getElem?_append_left q] at ha
        obtain ⟨x, y, q1, q2, q3⟩ := hG.at_ j a ha
        have ua := hG.up a (List.mem_of_getElem? ha)
        obtain ⟨g1, g2, g3, g4⟩ := far (Nat.le_of_lt ua)
        exact ⟨x, y, q1, q2, up _ _ (Nat.ne_of_gt ua) (e a _ g1 g2 g3 g4 q3)⟩
      · subst q
        have ea : h.objs.size = a := by simpa using ha
        subst ea
        subst hal
        exact ⟨_, _, Array.getElem?_eq_getElem _, Array.getElem?_eq_getElem _, up _ _ (Nat.ne_of_gt hSl) np⟩
      · rw [List.getElem?_eq_none (by rw [List.length_append, List.length_singleton]; omega)] at ha
        cases ha

theorem zip_no_len : typeLookup (.type "zip") "__len__" = pure none := by rw [typeLookup_type, builtinLookup_eq_fast]; kernel_rfl
theorem zip_no_hint : typeLookup (.type "zip") "__length_hint__" = pure none := by rw [typeLookup_type, builtinLookup_eq_fast]; kernel_rfl
theorem zt_init (hh : A.handled = none) (D : ZipApart z TI TO i1 i2 l1 l2) (bz : z < S) (b1 : TI < S) (b2 : TO < S) (b3 : i1 < S) (b4 : i2 < S) (b5 : l1 < S) (b6 : l2 < S) (hn : xs.size ≤ sizeLine) (hl : xs.size = ys.size) (tu1 : s.heap.IsTuple l1 xs) (tu2 : s.heap.IsTuple l2 ys)
    (hz : IsZip s.heap z TI TO .none) (hTI : IsPair s.heap TI (.ref i1) (.ref i2)) (hTO : ∃ a b, IsPair s.heap TO a b) (it1 : s.heap.IsTupleIter i1 l1 0) (it2 : s.heap.IsTupleIter i2 l2 0) (hS : s.heap.get? S = some { cls := .type "list", data := .seq #[] })
    (hR : ∀ h' tk acc c as, (∀ b o, b ≠ S → b ≠ z → b ≠ TO → b ≠ i1 → b ≠ i2 → s.heap.get? b = some o → h'.get? b = some o) → h'.get? S = some { cls := .type "list", dict := none, data := .seq acc c, slots := #[] } → as.length = xs.size → PrsAt xs ys S h' as → acc.toList = as.map Value.ref → R (.ok (.ret .none)) { s with heap := h', toks := tk }) :
    wpAny (model prog w) A.in1 (Builtin.«list.__init__» ⟨[.ref S, .ref z], []⟩)
      (fun fin s' => match fin with | .done f => R (.ok f) s' | .again c' => c'.quiet = true ∧ codeAny (model prog w) A c' R s') (fun e s' => R (.error e) s') s := by
  show wpAny _ A.in1 (Builtin.List.listItems (.ref S) >>= fun old => Builtin.List.listUpdate (.ref S) (fun _ => #[]) >>= fun _ => letGo old.toList.reverse >>= fun _ => Builtin.List.listExtendWith (.ref S) (.ref z) .none) _ _ s
  refine wpAny_bind ?_
  unfold Builtin.List.listItems
  refine wpAny_bind (wpAny_seqItems hS rfl (wpAny_pure (wpAny_bind (wpAny_updateSeq hS rfl ?_))))
  have g2 := Heap.get?_update_self (Obj.mapSeq (fun _ => (#[] : Array Value))) hS rfl
  have k2 : ∀ b o, b ≠ S → s.heap.get? b = some o → (s.heap.update S (Obj.mapSeq (fun _ => (#[] : Array Value)))).get? b = some o := fun b o nb e => (Heap.get?_update_other _ _ (Ne.symm nb)).trans e
  generalize hh2 : s.heap.update S (Obj.mapSeq (fun _ => (#[] : Array Value))) = H2 at g2 k2 ⊢
  refine wpAny_bind (wpAny_letGo ?_)
  have ne : z ≠ S := Nat.ne_of_lt bz
  have hz2 := k2 _ _ ne hz
  unfold Builtin.List.listExtendWith
  refine wpAny_bind (wpAny_typeOf (T := "zip") ⟨_, hz2, rfl⟩ ?_)
  have c1 : Builtin.List.listSameRef (.ref S) (.ref z) = false := by simp [Builtin.List.listSameRef, Ne.symm ne]
  have c2 : (Value.type "zip" == Value.type "list") = false := by decide
  have c3 : (Value.type "zip" == Value.type "tuple") = false := by decide
  simp only [c1, c2, c3, Bool.or_false, Bool.false_eq_true, if_false]
  refine wpAny_bind (wpAny_pyIter_zip (s := { s with heap := H2 }) hz2 (wpAny_bind (wpAny_holding ?_)))
  unfold Builtin.List.listLengthHint
  refine wpAny_bind (wpAny_specialOf (T := "zip") (s := { s with heap := H2 }) ⟨_, hz2, rfl⟩ zip_no_len ?_)
  show wpAny _ A.in1 (specialOf (Value.ref z) (Str.ofString "__length_hint__") >>= _) _ _ _
  refine wpAny_bind (wpAny_specialOf (T := "zip") (s := { s with heap := H2 }) ⟨_, hz2, rfl⟩ zip_no_hint (wpAny_pure ?_))
  show wpAny _ A.in1 (rule "list.extend.makes-room" >>= fun _ => (updateSeq S (·.push .none) >>= fun _ => updateSeq S (·.pop)) >>= fun _ => again (.builtin "list.extend.loop" ⟨[.ref S, .ref z, .none], []⟩)) _ _ _
  refine wpAny_bind (wpAny_rule (wpAny_bind (wpAny_bind (wpAny_updateSeq g2 rfl ?_))))
  have g3 := Heap.get?_update_self (Obj.mapSeq (·.push Value.none)) g2 rfl
  refine wpAny_updateSeq (hz := by seq_fits) g3 rfl ?_
  have g4 := Heap.get?_update_self (Obj.mapSeq (·.pop)) g3 rfl
  have k4 : ∀ b o, b ≠ S → s.heap.get? b = some o → ((H2.update S (Obj.mapSeq (·.push Value.none))).update S (Obj.mapSeq (·.pop))).get? b = some o := fun b o nb e => (Heap.get?_update_other _ _ (Ne.symm nb)).trans ((Heap.get?_update_other _ _ (Ne.symm nb)).trans (k2 b o nb e))
  refine wpAny_pure ⟨plainId_quiet F.plain_extend_loop _, zt_loop (h₁ := s.heap) hh D bz b1 b2 b3 b4 b5 b6 hn hl .none tu1 tu2 hR xs.size 0 _ _ _ #[] [] (Nat.sub_zero _) (Nat.zero_le _)
    (ZLp.kept (h := s.heap) ⟨hTI, it1, it2, .inl ⟨hz, hTO⟩⟩ k4 ne (Nat.ne_of_lt b1) (Nat.ne_of_lt b2) (Nat.ne_of_lt b3) (Nat.ne_of_lt b4)) (fun b o n1 _ _ _ _ e => k4 b o n1 e) g4 rfl rfl ⟨.nil, (fun _ h => by cases h), fun j a h => by simp at h⟩⟩
end
section
variable {prog : Program} {w : World} {A : Around} {E : Value → Shared → Prop} {s : Shared} {z TI TO i1 i2 l1 l2 : Addr} {xs ys : Array Value}
theorem zt_list {Q : Value → Shared → Prop} (hh : A.handled = none) (D : ZipApart z TI TO i1 i2 l1 l2) (hn : xs.size ≤ sizeLine) (hl : xs.size = ys.size) (tu1 : s.heap.IsTuple l1 xs) (tu2 : s.heap.IsTuple l2 ys)
    (hz : IsZip s.heap z TI TO .none) (hTI : IsPair s.heap TI (.ref i1) (.ref i2)) (hTO : ∃ a b, IsPair s.heap TO a b) (it1 : s.heap.IsTupleIter i1 l1 0) (it2 : s.heap.IsTupleIter i2 l2 0)
    (go : ∀ h' tk acc c as, (∀ b o, b ≠ z → b ≠ TO → b ≠ i1 → b ≠ i2 → s.heap.get? b = some o → h'.get? b = some o) → h'.get? s.heap.objs.size = some { cls := .type "list", dict := none, data := .seq acc c, slots := #[] } → as.length = xs.size → PrsAt xs ys s.heap.objs.size h' as → acc.toList = as.map Value.ref → Q (.ref s.heap.objs.size) { s with heap := h', toks := tk }) :
    wpAny (model prog w) A (call (.type "list") [.ref z]) Q E s := by
  have bd : ∀ {c : Addr} {o : Obj}, s.heap.get? c = some o → c < s.heap.objs.size := fun e => Heap.lt_size e
  obtain ⟨_, _, hTO'⟩ := id hTO
  obtain ⟨_, q1, _⟩ := id it1
  obtain ⟨_, q2, _⟩ := id it2
  obtain ⟨_, q3, _⟩ := id tu1
  obtain ⟨_, q4, _⟩ := id tu2
  have psh : ∀ {c : Addr} {o o' : Obj}, s.heap.get? c = some o → (s.heap.push o').get? c = some o := fun e => Heap.get?_push_of_some _ e
  refine callType_codes (Q₁ := fun obj s₁ => obj = .ref s.heap.objs.size ∧ s₁ = { s with heap := s.heap.push { cls := .type "list", data := .seq #[] } }) F.called_list (F.typeCall_list_1 _) F.entry_list_init (code_list_new _ ⟨rfl, rfl⟩) fun obj s₁ e1 => ?_
  obtain ⟨rfl, rfl⟩ := e1
  have hS : (s.heap.push { cls := .type "list", data := .seq #[] }).get? s.heap.objs.size = some { cls := .type "list", data := .seq #[] } := Heap.get?_push_size _ rfl
  refine ⟨⟨_, hS, rfl⟩, F.args_list_init_2 _ _, zt_init (A := A.in1) (s := { s with heap := s.heap.push { cls := .type "list", data := .seq #[] } }) hh D (bd hz) (bd hTI) (bd hTO') (bd q1) (bd q2) (bd q3) (bd q4) hn hl (tu1.push _) (tu2.push _) (psh hz) (psh hTI) (let ⟨a, b, e⟩ := hTO; ⟨a, b, psh e⟩) (it1.at fun o e => psh e) (it2.at fun o e => psh e) hS fun h' tk acc c as kp g l p ea => ?_⟩
  exact ⟨rfl, go h' tk acc c as (fun b o n1 n2 n3 n4 e => kp b o (Nat.ne_of_lt (bd e)) n1 n2 n3 n4 (psh e)) g l p ea⟩
end
theorem dpAll_idx {K : Fg} {H : Hp} : ∀ {vs : List V} {ds : List PyData}, vs.length = ds.length → (∀ (j : Nat) (v : V) (d : PyData), vs[j]? = some v → ds[j]? = some d → Dp K H v d) → DpAll K H vs ds
  | [], [], _, _ => .nil
  | [], d :: ds, h, _ => by simp at h
  | v :: vs, [], h, _ => by simp at h
  | v :: vs, d :: ds, h, k => .cons (k 0 v d rfl rfl) (dpAll_idx (by simpa using h) fun j v d h1 h2 => k (j + 1) v d (by simpa using h1) (by simpa using h2))
section
variable {X : Cx} {R : Rel} {σ : St} {H : Hp} {a b : Expr} {pos pos2 p p2 : Pos}
/-- list(zip(s, t)), two tuples of one length -/
theorem de_listZip {α β : Type} {l : List α} {m : List β} {f : α → PyData} {g : β → PyData} (hc : X.calm = true) (hg : Gl X "list") (hm : X.mg "list" = none) (hg2 : Gl X "zip") (hm2 : X.mg "zip" = none) (ha : PE X a (tG Ex σ H (Hd X.K (.tuple (l.map f))))) (hb : PE X b (tG Ex σ H (Hd X.K (.tuple (m.map g))))) (hl : l.length = m.length)
    (he : starEach [.Call (.Name "zip" p2) [a, b] [] pos2] X.env = (false, eval (.Call (.Name "zip" p2) [a, b] [] pos2) X.env) :: starEach [] X.env := by rfl) (hp : backTo pos (starEach [] X.env) = [] := by rfl)
    (hs : starEach [a, b] X.env = (false, eval a X.env) :: starEach [b] X.env := by rfl) (hs2 : starEach [b] X.env = (false, eval b X.env) :: starEach [] X.env := by rfl) (hpl : (backTo pos2 (starEach [b] X.env)).any (·.1) = false := by rfl) :
    PE X (.Call (.Name "list" p) [.Call (.Name "zip" p2) [a, b] [] pos2] [] pos) (tG Ex σ H (Hd X.K (.list ((l.zip m).map fun s => .tuple [f s.1, g s.2])))) := by
  refine ⟨fun pins s σ' H' Q I ⟨e1, h1, k⟩ => ?_⟩
  subst e1
  have boot : bootBuiltins "list" = some (.type "list") := by decide +kernel
  refine wpAny_Call_Name_kw (ld_blt I hg hm boot ?_)
  refine PyProof.Rows.callWith_type1 ?_ he (by rw [hp]; rfl)
  rw [he]
  show wpAny _ _ (spliced ((false, eval (.Call (.Name "zip" p2) [a, b] [] pos2) X.env) :: backTo pos (starEach [] X.env))) _ _ s
  rw [hp]
  refine Calls.spliced_cons (wpAny_Call_Name_kw (ld_blt I hg2 hm2 PyProof.Rows.boot_zip (PyProof.Rows.callWith_type1 (thn ((da_cons rlEx (mo_d rlEx) ha (da_cons rlEx (mo_d rlEx) hb (da_nil rlEx) hs2) hs).run pos2 pins s σ' H' (fun vs H1 => Ex H' H1 ∧ All2 [Hd X.K (.tuple (l.map f)), Hd X.K (.tuple (m.map g))] vs H1) I ⟨rfl, h1, fun vs H1 h2 q => ⟨h2, q⟩⟩) fun us s1 ⟨vs, H1, I1, r1, h2, q1⟩ => ?_) hs hpl)))
  obtain ⟨v, u, rfl, d1, d2⟩ := all2 q1
  obtain ⟨a1, xs, rfl, hq1, hd1⟩ := dp_tup d1
  obtain ⟨a2, ys, rfl, hq2, hd2⟩ := dp_tup d2
  obtain ⟨w1, w2, rfl, ru, rv⟩ := vals2 r1
  cases ru
  cases rv
  obtain ⟨its, rx, tu1, z1⟩ := I1.tuple hq1
  obtain ⟨its2, ry, tu2, z2⟩ := I1.tuple hq2
  have lx : its.length = l.length := by rw [← rx.length, DpAll.length hd1, List.length_map]
  have ly : its2.length = m.length := by rw [← ry.length, DpAll.length hd2, List.length_map]
  have lx' : xs.length = l.length := by rw [DpAll.length hd1, List.length_map]
  have ly' : ys.length = m.length := by rw [DpAll.length hd2, List.length_map]
  obtain ⟨o1, ho1, _⟩ := id tu1
  obtain ⟨o2, ho2, _⟩ := id tu2
  refine RZ.call_zipT (show s1.heap.IsTuple a1 its.toArray from tu1) (show s1.heap.IsTuple a2 its2.toArray from tu2) fun h' hz hTI hTO i1 i2 hsz hk => ?_
  refine Calls.spliced_nil ?_
  have tt1 : h'.IsTuple a1 its.toArray := (show s1.heap.IsTuple a1 its.toArray from tu1).at fun o e => hk _ o e
  have tt2 : h'.IsTuple a2 its2.toArray := (show s1.heap.IsTuple a2 its2.toArray from tu2).at fun o e => hk _ o e
  have hh : X.A.handled = none := I1.ok.hd hc
  refine zt_list (s := { s1 with heap := h' }) hh (PySem.W.ktu_apart s1.heap.objs.size a1 a2 (Heap.lt_size ho1) (Heap.lt_size ho2)) (by rw [List.size_toArray, lx, ← lx']; exact z1) (by rw [List.size_toArray, List.size_toArray, lx, ly, hl]) tt1 tt2 hz hTI ⟨_, _, hTO⟩ i1 i2 fun gh tk acc c as kp hS la pa ea => ?_
  have kS : ∀ b o, s1.heap.get? b = some o → gh.get? b = some o := fun b o e => by
    have lt : b < s1.heap.objs.size := Heap.lt_size e
    have nn : ∀ i, b ≠ s1.heap.objs.size + i := fun i => Nat.ne_of_lt (Nat.lt_of_lt_of_le lt (Nat.le_add_right _ _))
    exact kp b o (nn 4) (nn 3) (nn 0) (nn 1) (hk b o e)
  have J : Inv X pins σ' H1 { s1 with heap := gh, toks := tk } := I1.kept (t' := tk) kS
  have big : s1.heap.objs.size ≤ h'.objs.size := by rw [hsz]; omega
  have nS : H1 h'.objs.size = none := I1.hok.fresh big
  have las : as.length = l.length := by rw [la, List.size_toArray, lx]
  have hlen : (as.map V.ref).length ≤ sizeLine := by rw [List.length_map, las, ← lx']; exact z1
  have J2 : Inv X pins σ' (upd H1 h'.objs.size (.lst (as.map V.ref))) { s1 with heap := gh, toks := tk } :=
    J.take (h' := gh) (t' := tk) (fun b ob _ e => e) (I1.fpOk big nS) ⟨hlen, acc.toList, c, by rw [ea]; exact vals_maps V.ref Value.ref as fun _ _ => rfl, by rw [Array.toArray_toList]; exact hS⟩
  obtain ⟨H2, J3, gr, qt⟩ := DX.takeT (P := fun b vs => ∃ (j : Nat) (x y : V), as[j]? = some b ∧ xs[j]? = some x ∧ ys[j]? = some y ∧ vs = [x, y]) I1 as _ J2 (List.Pairwise.imp (fun h => Nat.ne_of_lt h) pa.rise) fun b hb => by
    obtain ⟨j, hj⟩ := List.mem_iff_getElem?.mp hb
    obtain ⟨x, y, qx, qy, hp'⟩ := pa.at_ j b hj
    have jl : j < as.length := (List.getElem?_eq_some_iff.mp hj).1
    obtain ⟨xv, hxv⟩ : ∃ xv, xs[j]? = some xv := ⟨xs[j]'(by omega), List.getElem?_eq_getElem _⟩
    obtain ⟨yv, hyv⟩ : ∃ yv, ys[j]? = some yv := ⟨ys[j]'(by omega), List.getElem?_eq_getElem _⟩
    obtain ⟨x', hx', rx'⟩ := rx.get hxv
    obtain ⟨y', hy', ry'⟩ := ry.get hyv
    have ex : x' = x := by
      have z : its.toArray[j]? = some x' := by simpa using hx'
      rw [qx] at z
      exact (Option.some.inj z).symm
    have ey : y' = y := by
      have z : its2.toArray[j]? = some y' := by simpa using hy'
      rw [qy] at z
      exact (Option.some.inj z).symm
    subst ex ey
    have hbl : h'.objs.size < b := pa.up b hb
    have hbl2 : s1.heap.objs.size ≤ b := by omega
    refine ⟨hbl2, ?_, [xv, yv], ⟨j, xv, yv, hj, hxv, hyv, rfl⟩, fun H3 => ⟨(by rw [sizeLine_eq]; show 2 ≤ 16777216; omega), [x', y'], .cons rx' (.cons ry' .nil), ⟨_, hp', rfl, 0, rfl⟩⟩⟩
    rw [upd_ne (Nat.ne_of_gt hbl)]
    exact I1.hok.fresh hbl2
  have ex : Ex H1 H2 := fun b o e => gr b o (by rw [upd_ne (ne_of_none e nS)]; exact e)
  refine ⟨.ref h'.objs.size, H2, J3, rfl, k _ H2 (h2.tr ex) (.lst (.inl (.inl (gr _ _ upd_same))) (dpAll_idx (by rw [List.length_map, List.length_map, List.length_zip, las, ← hl]; omega) fun j v d hv hd => ?_))⟩
  obtain ⟨b, hb, rfl⟩ := map_get hv
  obtain ⟨q, hq, rfl⟩ := map_get hd
  obtain ⟨q1, q2⟩ := List.getElem?_zip_eq_some.mp hq
  obtain ⟨vs, ⟨j', x, y, hj', hx, hy, rfl⟩, hH⟩ := qt b (List.mem_of_getElem? hb)
  have ej : j = j' := (List.getElem?_inj (List.getElem?_eq_some_iff.mp hb).1 (List.Pairwise.imp (fun h => Nat.ne_of_lt h) pa.rise)).mp (hb.trans hj'.symm)
  subst ej
  obtain ⟨x2, e1, p1⟩ := DpAll.get hd1 (i := j) (d := f q.1) (by rw [List.getElem?_map, q1]; rfl)
  obtain ⟨y2, e2, p2⟩ := DpAll.get hd2 (i := j) (d := g q.2) (by rw [List.getElem?_map, q2]; rfl)
  rw [hx] at e1
  rw [hy] at e2
  cases e1
  cases e2
  exact .tup (.inl (.inl hH)) (.cons (rlEx.dp ex p1) (.cons (rlEx.dp ex p2) .nil))
end
end Lf
set_option maxHeartbeats 4000000
/-! K14: value_for, changed. -/
namespace Lf
open PySem PySem.Spec L2
open PyProof.Rows hiding St
theorem dt_inD {X : Cx} {σ : St} {H : Hp} {a b : Expr} {pos : Pos} {kds : DL} {j : Nat} {x : Str} (hr : Room j X.A) (ha : PE X a (tG Ex σ H (Hd X.K (.str x)))) (hb : PE X b (tG Ex σ H (IsDic X.K kds))) (hm : behindInMarks .In b = false := by rfl) : PT X (.Compare a [.In] [b] pos) (tT Ex σ H (fndK (Sum.inr x) kds).isSome) :=
  PT.imp (pt_cmp (pc_din (room1 hr) ha hb) hm) fun _ _ _ ⟨e1, h1, k⟩ => ⟨e1, h1, fun y H2 h2 q => ⟨e1, Ex.tr h1 h2, fun v H3 h3 ⟨l, kvs, ev, hl, hd⟩ => ⟨l, _, ev, dget_of (k := Sum.inr x) (K := X.K) hl (dp_str q), by
    rw [dicR_some hd]
    exact ⟨_, rfl, k H3 (Ex.tr h2 h3)⟩⟩⟩⟩
theorem g21 {K : Fg} {σ : St} {H : Hp} {i j l : Nat} {v : V} {d1 d2 d3 : PyData} {Q : St → Hp → Prop} (h : Dp K H v (.tuple [.tuple [d1, d2], d3])) (k : ∀ v1 v2 v3, Dp K H v1 d1 → Dp K H v2 d2 → Dp K H v3 d3 → Q (((σ.set i (some v1)).set j (some v2)).set l (some v3)) H) :
    gTup K 2 (gCons (gTup K 2 (gCons (gName i) (gCons (gName j) gNil))) (gCons (gName l) gNil)) v σ H Q := by
  obtain ⟨a, xs, rfl, hq, hd⟩ := dp_tup h
  cases hd with
  | cons h1 t =>
    cases t with
    | cons h2 t =>
      cases t
      exact g2v hq (g2 h1 fun v1 v2 p1 p2 => k v1 v2 _ p1 p2 h2)
def clampV : Kd → Vl → Vl
  | .rng lo hi, some i => some (max lo (min hi i))
  | .rng _ _, none => none
  | .cls _, v => v
/-- how an expression goes with a kind -/
def kindEx : Kd → Ek → Vl → Prop
  | .rng _ _, e, v => isLnk e = false ∧ ∃ i, v = some i
  | .cls _, e, _ => isLnk e = true
theorem rowOf_fnd {fm : Form} {vs : List Vl} {f : Str} {k : Kd} (h : valsOk fm vs) (hk : fnd f fm = some k) : ∃ v, fnd f (rowOf fm vs) = some v ∧ vlOk k v := by
  obtain ⟨hl, hv⟩ := h
  induction fm generalizing vs with
  | nil => cases hk
  | cons p fm ih =>
    cases vs with
    | nil => simp at hl
    | cons v vs =>
      have e : rowOf (p :: fm) (v :: vs) = (p.1, v) :: rowOf fm vs := rfl
      rw [e, fnd_cons]
      rw [fnd_cons] at hk
      by_cases z : p.1 = f
      · rw [if_pos z] at hk ⊢
        refine ⟨v, rfl, ?_⟩
        have := hv 0 p v rfl rfl
        rw [← Option.some.inj hk]
        exact this
      · rw [if_neg z] at hk ⊢
        exact ih hk (by simpa using hl) fun i q u h1 h2 => hv (i + 1) q u (by simpa using h1) (by simpa using h2)
theorem fit_ev {st : Sto} {o : Ob} {k : Kd} {e : Ek} (ok : StoOk st) (ho : o ∈ st.obs) (s : suits st.sch o.c k e) : NaX.ok ⟨st, o, e, evE (rowAt st o) e⟩ ∧ kindEx k e (evE (rowAt st o) e) := by
  obtain ⟨fm, hfm, hv⟩ := ok.obs o ho
  have hrow : rowAt st o = rowOf fm o.vs := by unfold rowAt fmAt; rw [hfm]; rfl
  have at_ : ∀ f k', kdAt st.sch o.c f = some k' → ∃ v, fnd f (rowAt st o) = some v ∧ vlOk k' v := fun f k' h => by
    unfold kdAt at h
    rw [hfm] at h
    rw [hrow]
    exact rowOf_fnd hv h
  cases e with
  | num z =>
    refine ⟨⟨ok, ho, rfl⟩, ?_⟩
    cases k with
    | rng lo hi => exact ⟨rfl, z, rfl⟩
    | cls c => cases s
  | get f =>
    obtain ⟨_, s2, lo, hi, s3⟩ := s
    obtain ⟨v, h1, h2⟩ := at_ f _ s3
    have hv' : evE (rowAt st o) (.get f) = v := by show (fnd f (rowAt st o)).getD none = v; rw [h1]; rfl
    rw [hv']
    refine ⟨⟨ok, ho, h1⟩, ?_⟩
    cases k with
    | rng l h =>
      cases v with
      | none => exact h2.elim
      | some i => exact ⟨rfl, i, rfl⟩
    | cls c => cases s2
  | to f =>
    obtain ⟨_, d, rfl, s3⟩ := s
    obtain ⟨v, h1, h2⟩ := at_ f _ s3
    have hv' : evE (rowAt st o) (.to f) = v := by show (fnd f (rowAt st o)).getD none = v; rw [h1]; rfl
    rw [hv']
    exact ⟨⟨ok, ho, h1⟩, rfl⟩
def newVals (st : Sto) (o : Ob) (r : Row) : List Vl := (r.fm.zip (r.es.getD [])).map fun p => clampV p.1.2 (evE (rowAt st o) p.2)
def rowsAL (rs : List Row) : AL Row := rs.map fun r => (r.c, r)
def chOb (st : Sto) (rs : List Row) (o : Ob) : Ob := match fnd o.c (rowsAL rs) with
  | none => o
  | some r => ⟨o.n, o.c, newVals st o r⟩
def chSto (st : Sto) (rs : List Row) : Sto := ⟨schAfter st.sch rs, st.lim, st.obs.map (chOb st rs)⟩
theorem nol_v (v : Vl) : nol (dV v) = true := by cases v <;> rfl
theorem nol_ob (o : Ob) : nol (dOb o) = true := by
  have h : nolAll (o.vs.map dV) = true := nolAll_map fun v _ => nol_v v
  simp [dOb, nol, nolAll, h]
section
variable {P : Program} {w : World} {K : Fg} {mg : Str → Option Value} {base : Heap}
abbrev spVal (K : Fg) : Sp := spT (fun _ => Ex) (fun x : NaX × Kd => x.1.ok ∧ kindEx x.2 x.1.e x.1.v) (fun x => [HSto K x.1.st, Hd K (.int (x.1.o.n : Int)), Hd K (dK x.2), Hd K (dE x.1.e)]) (fun x => Hd K (dV (clampV x.2 x.1.v)))
theorem f_value_for (T : Tx K mg) (E' : Tv K mg) : Fnc P w K mg base 5 "value_for" (spVal K) := by
  refine ⟨T.g_value_for, fna_of T.d_value_for sc_value_for bn_value_for (fun _ => rfl) fun cdv A0 outer s H E x vs Q hr ok ha hQ => ?_⟩
  obtain ⟨x, k⟩ := x
  obtain ⟨v, u, t, o, rfl, h1, h2, h3, h4⟩ := all4 ha
  obtain ⟨ok, ke⟩ := ok
  have ok : x.ok := ok
  have h1 : HSto K x.st v H := h1
  have h2 : Dp K H u (.int (x.o.n : Int)) := h2
  have h4 : Dp K H o (dE x.e) := h4
  have args : ∀ {X : Cx} {σ : St} {H' : Hp} {e1 e2 e3 : Expr}, X.K = K → Ex H H' → True := fun _ _ => trivial
  cases k with
  | cls c =>
    have h3 : Dp K H t (.str c) := h3
    refine bs_when (t := true) rlEx (dt_is (dt_not (dt_val rlEx (de_isi rlEx rfl T.z_isinstance (vd 2 h3) (vty rlEx T.z_tuple) (kit_Tup (.str c))))) rfl) (fun _ H1 e1 => ?_) (fun z => by cases z)
    refine bs_ret (cE (f_link_at T E') x hr ⟨ok, ke⟩ (da_cons rlEx (mo_sto rlEx) (de_var (i := 0) rlEx rfl (mo_sto rlEx) (mo_sto rlEx _ _ _ e1 h1) rfl (.inl rfl)) (ar2 (vdm 1 h2 e1) (vdm 3 h4 e1)))) rlEx fun v' H4 e4 q => hQ v' H4 (e1.tr e4) q
  | rng lo hi =>
    obtain ⟨k1, i, k2⟩ := ke
    have k2 : x.v = some i := k2
    have h3 : Dp K H t (.tuple [.int lo, .int hi]) := h3
    refine bs_when (t := false) rlEx (dt_is (dt_not (dt_val rlEx (de_isi rlEx rfl T.z_isinstance (vd 2 h3) (vty rlEx T.z_tuple) (kit_Tup (.tuple [.int lo, .int hi]))))) rfl) (fun z => by cases z) fun _ H1 e1 => ?_
    refine bs_ret (φ := Hd K (.int (max lo (min hi i)))) (de_max2 rlEx rfl rfl T.z_max (de_ixT (d := .int lo) rlEx (vdm 2 h3 e1) (de_int rlEx) rfl) (de_min2 rlEx rfl rfl T.z_min (de_ixT (d := .int hi) rlEx (vdm 2 h3 e1) (de_int rlEx) rfl) (de_is (cE (f_number_at T E') x hr ⟨ok, k1⟩ (da_cons rlEx (mo_sto rlEx) (de_var (i := 0) rlEx rfl (mo_sto rlEx) (mo_sto rlEx _ _ _ e1 h1) rfl (.inl rfl)) (ar2 (vdm 1 h2 e1) (vdm 3 h4 e1)))) (by rw [k2]; rfl)))) rlEx fun v' H4 e4 q => hQ v' H4 (e1.tr e4) ?_
    show Dp K H4 v' (dV (clampV (.rng lo hi) x.v))
    rw [k2]
    exact q
end
end Lf
set_option maxHeartbeats 4000000
/-! Lay14: y = {k: v for ..} on one line. -/
namespace Lf
open PySem PySem.Spec L2
open PyProof.Rows hiding St
abbrev AllBlk (X : Cx) (scope : Scope) (φ : Cx → Prop) : Prop := ∀ (s : Shared) (H : Hp) (C : Addr) (cl : List (Str × Addr)) (fp : List Addr), φ (X.blk s H scope (compEnvC scope cl C X.env) fp)
section
variable {X : Cx} {R : Rel} {σ : St} {H : Hp} {D : Ends} {rest : List Stmt} {pos p spos py : Pos} {φ ψ : Pv}
theorem ps_setDc {i : Nat} {y : Str} {kx vx tg iter : Expr} {ifs : List Expr} {scope : Scope} {own : List (Str × Nat)} {wi : TI} {g : TG} {tt : TT} {tk tv : TE} (hc : X.calm = true) (hN : X.N.Nodup) (hy : X.N[i]? = some y) (hl : X.env.scope.names.lookup y = some .local)
    (sw : swapsWith (.DictComp kx vx [⟨tg, iter, ifs, 0⟩] scope pos) (some (.Name y py)) spos.line X.env = pure true) (hi : PI X tg iter wi) (ok : BlkOk X.N X.env.scope scope own) (hg : AllBlk X scope fun Y => PG Y tg g) (ht : AllBlk X scope fun Y => PTs Y ifs tt) (hk : AllBlk X scope fun Y => PE Y kx tk) (hv : AllBlk X scope fun Y => PE Y vx tv)
    (hf : ∀ x, foldedSetIterable iter X.env x = pure x) : PS X (.Assign [.Name y py] (.DictComp kx vx [⟨tg, iter, ifs, 0⟩] scope pos) spos) (tAsg (tDc wi g tt tk tv (own.map (·.2))) (gName i)) := by
  refine ⟨fun pins s σ H D I h => ?_⟩
  have h' : tDc wi g tt tk tv (own.map (·.2)) σ H (fun x H1 => gName i x σ H1 D.nx) := h
  rw [exec_Assign_Name_used _ _ _ _ sw]
  refine wpAny_bind (wpAny_standAt (wpAny_bind ?_))
  show wpAny _ X.A (comprehension (.DictComp kx vx [⟨tg, iter, ifs, 0⟩] scope pos) scope X.env (firstIterPos [⟨tg, iter, ifs, 0⟩] pos) newDict false (eval iter X.env) (some (assign (.Name y py) X.env)) >>= fun _ => pure ()) _ _ s
  refine wpAny_bind (thn (dc_core (Qf := fun _ s' => SP X pins D .next s') hc hN I hi ok hg ht hk hv hf h' fun L C s' m H' I' q ns f => ?_) fun _ s' z => wpAny_pure (wpAny_pure z))
  obtain ⟨n0, n1, n2, n3, n4, n5⟩ := f
  show wpAny _ _ (assign (.Name y py) X.env (.ref L)) _ _ _
  refine wpAny_assign_Name (store_ok2 (v := V.ref L) I' hN hy (.inl hl) rfl (fun s2 I2 ⟨a, sb, ha⟩ => ⟨m, ns.sameBut sb ?_, fun h3 sb3 => ⟨_, H', I2.turned (t' := s2.toks) (fun b o hb e => (sb3.2 b hb).trans e) n0 n1 n3 n4 n5, q⟩⟩) (.inr hl))
  rcases ha with z | z
  · exact z ▸ n1
  · exact fun e => n4 y a z e.symm
/-- y = {k: v for tg in iter if ..}, y a local -/
theorem bs_setDc {α : Type} {src : List α} {ι : α → Pv} {bo : α → Bool} {ky : α → Key} {eo : α → PyData} {kx vx tg iter : Expr} {ifs : List Expr} {scope : Scope} {own : List (Str × Nat)} {g : TG} {i : Nat} {y : Str} (hc : X.calm = true) (hN : X.N.Nodup) (hy : X.N[i]? = some y) (hl : X.env.scope.names.lookup y = some .local)
    (sw : swapsWith (.DictComp kx vx [⟨tg, iter, ifs, 0⟩] scope pos) (some (.Name y py)) spos.line X.env = pure true) (ok : BlkOk X.N X.env.scope scope own)
    (S : Src X Ex σ H tg iter src ι) (hz : src.length < sizeLine) (hn : ∀ s ∈ src, nol (eo s) = true) (nd : ((src.filter bo).map ky).Nodup) (hg : Blk X scope fun Y => PG Y tg g) (gm : GMo g)
    (hs : ∀ s x H', s ∈ src → Ex H H' → ι s x H' → g x (wipe σ (own.map (·.2))) H' fun σ2 H2 => wipe σ2 (own.map (·.2)) = wipe σ (own.map (·.2)) ∧ Ex H' H2 ∧ (Blk X scope fun Y => PTs Y ifs (tT Ex σ2 H2 (bo s))) ∧
      (bo s = true → ∀ H3, Ex H2 H3 → (Blk X scope fun Y => PE Y kx (tG Ex σ2 H3 (Hv (kV (ky s))))) ∧ (∀ H3, Ex H2 H3 → Blk X scope fun Y => PE Y vx (tG Ex σ2 H3 (Hd X.K (eo s))))))
    (k : ∀ v H', Ex H H' → DicN X.K H ((src.filter bo).map fun s => (ky s, eo s)) v H' → PSs X rest (tAt (σ.set i (some v)) H' D)) (hf : ∀ x, foldedSetIterable iter X.env x = pure x := by intro _; rfl) :
    PSs X (.Assign [.Name y py] (.DictComp kx vx [⟨tg, iter, ifs, 0⟩] scope pos) spos :: rest) (tAt σ H D) := by
  obtain ⟨wi, hi, q⟩ := S.ex
  exact bs_seq (ps_setDc (i := i) hc hN hy hl sw hi ok hg PTs.selfB PE.selfB PE.selfB hf) (dc_go q hz hn nd hs gm (Ex.rfl' _) fun v H2 h2 z => k v H2 h2 z)
theorem sw_dc {kx vx : Expr} {gs : List Comprehension} {scope : Scope} {y : Str} {l : Nat} {env : Env} (hk : env.scope.kind = .function) (hy : env.scope.names.lookup y = some .local) (hl : (py.line == pos.line) = true)
    (ha : (scope.names.any fun (n, k) => n == y && (k == .local || k == .cell)) = false) : swapsWith (.DictComp kx vx gs scope pos) (some (.Name y py)) l env = pure true := by
  have k1 : env.kindOf y = some .local := hy
  have k2 : env.blockKind = .function := by unfold Env.blockKind; rw [hk]; rfl
  unfold swapsWith
  simp only [k2, k1, ha, Expr.pos, hl]
  rfl
end
end Lf
set_option maxHeartbeats 4000000
/-! K15: changed. -/
namespace Lf
open PySem PySem.Spec L2
open PyProof.Rows hiding St
theorem rowsAL_fnd {rs : List Row} {c : Str} {r : Row} (h : fnd c (rowsAL rs) = some r) : r ∈ rs ∧ r.c = c := by
  obtain ⟨r', m, e⟩ := List.mem_map.mp (fnd_in h)
  have e1 := congrArg Prod.fst e
  have e2 := congrArg Prod.snd e
  dsimp only at e1 e2
  subst e2
  exact ⟨m, e1⟩
theorem vst {X : Cx} {σ : St} {H H0 : Hp} {x : Str} {pos : Pos} {v : V} {st : Sto} (i : Nat) (h : HSto X.K st v H0) (e : Ex H0 H) (hs : σ[i]? = some (some v) := by rfl) (hN : X.N[i]? = some x := by rfl) (vis : Vis X.env.scope x := by first | exact .inl rfl | exact .inr (.inl rfl) | exact .inr (.inr rfl))
    (hd : (x == ("__debug__" : Str)) = false := by decide) (hcd : (x == ("__classdict__" : Str)) = false := by decide) : PE X (.Name x pos) (tG Ex σ H (HSto X.K st)) :=
  de_var (i := i) rlEx hs (mo_sto rlEx) (mo_sto rlEx _ _ _ e h) hN vis hd hcd
theorem rd_rl {l c : Addr} {H H' : Hp} {ys : List V} {u : HO} (x : RO l H H') (hl : H l = some (.lst ys)) (n1 : u ≠ .lst ys) (r : Rd H c u) : Rd H' c u := by
  have ne : c ≠ l := fun e => no_rd hl (Ne.symm n1) (fun _ q => by cases q) (e ▸ r)
  exact r.imp (x c _ ne) fun ⟨o, z⟩ => ⟨o, x c _ ne z⟩
section
variable {P : Program} {w : World} {K : Fg} {mg : Str → Option Value} {base : Heap}
/-- the turn's last statement -/
def chTail : List Stmt := match (defBody s_changed).getD 4 (.Pass ⟨0, 0, 0, 0⟩) with
  | .For _ _ b _ _ => b.drop 1
  | _ => []
abbrev spChanged (K : Fg) : Sp := spT (fun _ => Ex) (fun x : Sto × List Row => StoOk x.1 ∧ ChOk x.1.sch x.2) (fun x => [HSto K x.1, Hd K (dRows x.2)]) (fun x => HSto K (chSto x.1 x.2))
theorem f_changed (T : Tx K mg) (Te' : Te mg) (E' : Tv K mg) : Fnc P w K mg base 10 "changed" (spChanged K) := by
  refine ⟨T.g_changed, fna_of T.d_changed sc_changed bn_changed (fun _ => rfl) fun cdv A0 outer s H E x vs Q hr ok ha hQ => ?_⟩
  obtain ⟨st, rs⟩ := x
  obtain ⟨v, u, rfl, h1, h2⟩ := all2 ha
  obtain ⟨so, co⟩ := ok
  have so : StoOk st := so
  have co : ChOk st.sch rs := co
  have h2 : Dp K H u (.tuple (rs.map dRow)) := h2
  have hst : HSto K st v H := h1
  obtain ⟨pa, sv, ov, rfl, hq, hs, ho⟩ := h1
  have hq : SqT K H pa [sv, .int st.lim, ov] := hq
  have hs : Hs K st.sch sv H := hs
  have ho : Dp K H ov (.tuple (st.obs.map dOb)) := ho
  have big : 1000 ≤ sizeLine := by decide
  have few2 : st.obs.length < 900 := so.few.2
  have few3 : rs.length < 1000 := co.inn.2.2.2
  refine bs_asg (g := gTup K 3 (gCons (gName 2) (gCons (gName 3) (gCons (gName 4) gNil)))) rlEx (pg_tup (X := _) rfl (pgs_cons (pg_name (i := 2) sc_changed.nd rfl (.inl rfl)) (pgs_cons (pg_name (i := 3) sc_changed.nd rfl (.inl rfl)) (pgs_cons (pg_name (i := 4) sc_changed.nd rfl (.inl rfl)) pgs_nil)))) (de_var (φ := Hv (.ref pa)) (i := 0) rlEx rfl mo_v rfl rfl (.inr (.inl rfl))) fun v1 H1 e1 ev => ?_
  subst ev
  refine ⟨pa, _, rfl, rlEx.sqT e1 hq, rfl, sv, _, rfl, .int st.lim, _, rfl, ov, _, rfl, rfl, ?_⟩
  refine bs_expr rlEx (cE (f_lets_change T Te') (st.sch, rs) hr co (da_cons rlEx (mo_fz rlEx) (vf 2 hs e1) (da_cons rlEx (mo_d rlEx) (vdm 1 h2 e1) (da_nil rlEx)))) fun _ H2 e2 _ => ?_
  have e02 := e1.tr e2
  refine bs_setDc (i := 5) (own := [("row", 14)]) (g := gName 14) (bo := fun _ : Row => true) (ky := fun r : Row => Sum.inr r.c) (eo := dRow) rfl sc_changed.nd rfl rfl (sw_dc rfl rfl rfl (by decide +kernel)) (blkOk_by (N := ["plain", "thing", "schema", "following", "objects", "rows", "found", "number", "cls", "values", "own", "form", "expressions", "pairs", "row", "one", "field", "kind"]) (sc := defScope s_changed) (by decide +kernel))
      (src_tup (src := rs) (f := dRow) rlEx (vdm 1 h2 e02)) (by omega) (fun r _ => nol_row r) ?_ (fun _ _ _ _ _ => pg_name (i := 14) sc_changed.nd rfl (.inl rfl)) gm_name
      (fun r y H' _ _ hy => ⟨rfl, Ex.rfl' _, fun _ _ _ _ _ => dts_nil rlEx rfl, fun _ H3 e3 => ⟨fun _ _ _ _ _ => de_imp (φ := Hd K (.str r.c)) (de_ixT (ds := [.str r.c, dForm r.fm, opt dEs r.es]) rlEx (vd 14 (rlEx.dp e3 hy)) (de_int rlEx) rfl) (fun _ _ _ h => dp_str h) rlEx, fun H4 e4 _ _ _ _ _ => vd 14 (rlEx.dp e4 hy)⟩⟩) fun rv H3 e3 hrv => ?_
  · rw [List.filter_eq_self.mpr (fun _ _ => rfl)]
    have e : (rs.map fun r : Row => (Sum.inr r.c : Key)) = (rs.map (·.c)).map Sum.inr := by rw [List.map_map]; rfl
    rw [e]
    exact List.Pairwise.map _ (fun a b h e => h (Sum.inr.inj e)) (up_nodup (up_rising.mp co.inn.2.1))
  have hrv : IsDic K ((rowsAL rs).map (kf dRow)) rv H3 := by
    have hrv := dicN_dic hrv
    rw [List.filter_eq_self.mpr (fun _ _ => rfl)] at hrv
    unfold rowsAL
    rw [List.map_map]
    exact hrv
  have e03 := e02.tr e3
  refine bs_set (i := 6) (φ := IsLst K H3 []) rlEx sc_changed.nd rfl (.inl rfl) (de_lstN (dd_nil rlEx)) fun lv H4 e4 hlv => ?_
  obtain ⟨l, ys, rfl, n3, hl4, hy4⟩ := hlv
  cases hy4
  refine bs_forT (g := gTup K 3 (gCons (gName 7) (gCons (gName 8) (gCons (gName 9) gNil)))) rlEx PassesOwn.never rfl (vdm 4 ho (e03.tr e4)) (pg_tup (X := _) rfl (pgs_cons (pg_name (i := 7) sc_changed.nd rfl (.inr rfl)) (pgs_cons (pg_name (i := 8) sc_changed.nd rfl (.inl rfl)) (pgs_cons (pg_name (i := 9) sc_changed.nd rfl (.inl rfl)) pgs_nil))))
    (fun xs H6 i σ' H' => ∃ b c d e f g h, σ' = [some (.ref pa), some u, some sv, some (.int st.lim), some ov, some rv, some (.ref l), b, c, d, e, f, g, h, none, none, none, none] ∧ Ex H3 H' ∧ (∃ ys, H6 l = some (.lst ys)) ∧ RO l H6 H' ∧ ∃ acc, H' l = some (.lst acc) ∧ acc.length = i ∧ DpAll K H' acc ((st.obs.take i).map fun o => dOb (chOb st rs o)))
    (fun _ xs H6 e6 _ _ => ⟨_, _, _, _, _, _, _, rfl, e4.tr e6, ⟨_, e6 _ _ hl4⟩, RO.of (Ex.rfl' _), [], e6 _ _ hl4, rfl, .nil⟩) (fun b xs H6 i σ' H' hq _ ⟨_, _, _, _, _, _, _, _, _, ⟨ys, hys⟩, ro, _⟩ => hq.imp (rd_rl ro hys (fun q => by cases q)) id) ?_ ?_
  · rintro b xs H6 i x σ' H' e6 hq6 hd6 hx ⟨b1, b2, b3, b4, b5, b6, b7, rfl, ex, ⟨ys, hys⟩, ro, acc, hacc, lacc, dacc⟩
    obtain ⟨d, hdi, hdx⟩ := DpAll.getV hd6 hx
    obtain ⟨o, hoi, rfl⟩ := map_get hdi
    have hom := List.mem_of_getElem? hoi
    have il : i < st.obs.length := (List.getElem?_eq_some_iff.mp hoi).1
    have hdx : Dp K H' x (.tuple [.int (o.n : Int), .str o.c, .tuple (o.vs.map dV)]) := dp_nol (fun _ _ r => rd_rl ro hys (fun q => by cases q) r) (nol_ob o) hdx
    refine g3t hdx fun w1 w2 w3 p1 p2 p3 => ?_
    have e0 : Ex H H' := e03.tr ex
    have tail : ∀ (w4 : V) (c4 c5 c6 c7 : Option V) (H7 : Hp) (D7 : Ends), Ex H' H7 → Dp K H7 w4 (.tuple ((chOb st rs o).vs.map dV)) → (chOb st rs o).n = o.n → (chOb st rs o).c = o.c →
        (∀ H8, Ex H3 H8 → RO l H6 H8 → (∃ acc, H8 l = some (.lst acc) ∧ acc.length = i + 1 ∧ DpAll K H8 acc ((st.obs.take (i + 1)).map fun o => dOb (chOb st rs o))) → D7.nx [some (.ref pa), some u, some sv, some (.int st.lim), some ov, some rv, some (.ref l), some w1, some w2, some w4, c4, c5, c6, c7, none, none, none, none] H8) →
        PSs (CxB P w K mg base ["plain", "thing", "schema", "following", "objects", "rows", "found", "number", "cls", "values", "own", "form", "expressions", "pairs", "row", "one", "field", "kind"] "changed" (defScope s_changed) (He.ga K "changed") cdv A0 outer s H E) chTail
          (tAt [some (.ref pa), some u, some sv, some (.int st.lim), some ov, some rv, some (.ref l), some w1, some w2, some w4, c4, c5, c6, c7, none, none, none, none] H7 D7) := by
      intro w4 c4 c5 c6 c7 H7 D7 e7 p4 en ec nx
      refine bs_append (φ := Hd K (dOb (chOb st rs o))) (i := 6) rlEx rfl rfl (.inl rfl) (e7 _ _ hacc) (by omega) (mo_d rlEx) (de_is (de_tup rlEx (dd_cons rlEx (vd 7 (rlEx.dp e7 p1)) (dd_cons rlEx (vd 8 (rlEx.dp e7 p2)) (dd_cons rlEx (vd 9 p4) (dd_nil rlEx))))) ?_) fun z H8 e8 pz hl8 => bs_nil ?_
      · show _ = PyData.tuple [.int ((chOb st rs o).n : Int), .str (chOb st rs o).c, .tuple ((chOb st rs o).vs.map dV)]
        rw [en, ec]
      have e78 := e7.tr e8
      have tu := tups_upd (o := .lst (acc ++ [z])) (no_tup hl8 (fun _ z => by cases z) fun _ _ z => by cases z)
      refine nx _ (Ex.mut (ex.tr e78) n3) (RO.tr (RO.tr ro (RO.of e78)) RO.upd) ⟨acc ++ [z], upd_same, by rw [List.length_append, lacc]; rfl, ?_⟩
      have htake : st.obs.take (i + 1) = st.obs.take i ++ [o] := by rw [List.take_succ, hoi]; rfl
      rw [htake, List.map_append]
      refine DpAll.app (dp_nolAll tu (nolAll_iff.mpr fun d hd => ?_) (rlEx.dpAll e78 dacc)) (.cons (dp_nol tu (nol_ob _) pz) .nil)
      obtain ⟨q, _, rfl⟩ := List.mem_map.mp hd
      exact nol_ob _
    have hdc := mo_dic _ _ _ ex hrv
    cases hf : fnd o.c (rowsAL rs) with
    | none =>
      have ech : chOb st rs o = o := by unfold chOb; rw [hf]
      refine bs_when (t := false) rlEx (dt_is (dt_inD hr (vd 8 p2) (vdc 5 hdc (Ex.rfl' _))) ?_) (fun z => by cases z) fun _ H7 e7 => ?_
      · rw [fndK_of, hf]; rfl
      refine tail w3 _ _ _ _ H7 _ e7 (by rw [ech]; exact rlEx.dp e7 p3) (by rw [ech]) (by rw [ech]) fun H8 x1 x2 x3 => ⟨_, _, _, _, _, _, _, rfl, x1, ⟨_, hys⟩, x2, x3⟩
    | some r =>
      obtain ⟨rin, rc⟩ := rowsAL_fnd hf
      obtain ⟨fm0, hfm0, _⟩ := so.obs o hom
      obtain ⟨ff1, ff2⟩ := co.inn.2.2.1 r rin
      obtain ⟨es, hes⟩ : ∃ es, r.es = some es := by
        rw [rc, hfm0] at ff1
        exact Option.isSome_iff_exists.mp ff1.symm
      have ech : chOb st rs o = ⟨o.n, o.c, newVals st o r⟩ := by unfold chOb; rw [hf]
      have lens : r.fm.length = es.length := (ff2 es hes).symm
      refine bs_when (t := true) rlEx (dt_is (dt_inD hr (vd 8 p2) (vdc 5 hdc (Ex.rfl' _))) ?_) (fun _ H7 e7 => ?_) (fun z => by cases z)
      · rw [fndK_of, hf]; rfl
      refine bs_asg (φ := Hd K (dRow r)) (g := gTup K 3 (gCons (gName 10) (gCons (gName 11) (gCons (gName 12) gNil)))) rlEx (pg_tup (X := _) rfl (pgs_cons (pg_name (i := 10) sc_changed.nd rfl (.inl rfl)) (pgs_cons (pg_name (i := 11) sc_changed.nd rfl (.inl rfl)) (pgs_cons (pg_name (i := 12) sc_changed.nd rfl (.inl rfl)) pgs_nil)))) (de_getD (k := .inr o.c) hr (vdc 5 hdc e7) (vdm 8 p2 e7) key_str ?_) fun v9 H9 e9 q9 => ?_
      · rw [fndK_of, hf]; rfl
      refine g3t q9 fun u1 u2 u3 r1 r2 r3 => ?_
      have r2 : Dp K H9 u2 (.tuple (r.fm.map dFld)) := r2
      have r3 : Dp K H9 u3 (.tuple (es.map dE)) := by rw [hes] at r3; exact r3
      refine bs_set (i := 13) (φ := Hd K (.list ((r.fm.zip es).map fun s => .tuple [dFld s.1, dE s.2]))) rlEx sc_changed.nd rfl (.inl rfl) ?_ fun pv H10 e10 q10 => ?_
      · refine de_listZip ?_ ?_ T.z_list ?_ T.z_zip (vd 11 r2) (vd 12 r3) lens
        · rfl
        · rfl
        · rfl
      have e7_10 := (e7.tr e9).tr e10
      refine bs_set (i := 9) (φ := Hd K (.tuple ((newVals st o r).map dV))) rlEx sc_changed.nd rfl (.inl rfl) (de_is (de_tupleL (ds := (r.fm.zip es).map fun q => dV (clampV q.1.2 (evE (rowAt st o) q.2))) rlEx rfl T.z_tuple ?_) ?_) fun vv H11 e11 q11 => bs_nil ?_
      · refine de_lcM (own := [("one", 15), ("field", 16), ("kind", 17)]) (g := gTup K 2 (gCons (gTup K 2 (gCons (gName 16) (gCons (gName 17) gNil))) (gCons (gName 15) gNil))) (eo := fun q : (Str × Kd) × Ek => dV (clampV q.1.2 (evE (rowAt st o) q.2))) rlEx rfl sc_changed.nd (blkOk_by (N := ["plain", "thing", "schema", "following", "objects", "rows", "found", "number", "cls", "values", "own", "form", "expressions", "pairs", "row", "one", "field", "kind"]) (sc := defScope s_changed) (by decide +kernel))
          (src_lst (src := r.fm.zip es) (f := fun q => .tuple [dFld q.1, dE q.2]) rlEx (vd 13 q10)) (by rw [List.length_zip]; have := ff2 es hes; have l2 := (co.rows r rin).2.2.2; omega) (fun q _ => nol_v _)
          (fun _ _ _ _ _ => pg_tup (X := _) rfl (pgs_cons (pg_tup (X := _) rfl (pgs_cons (pg_name (i := 16) sc_changed.nd rfl (.inl rfl)) (pgs_cons (pg_name (i := 17) sc_changed.nd rfl (.inl rfl)) pgs_nil))) (pgs_cons (pg_name (i := 15) sc_changed.nd rfl (.inl rfl)) pgs_nil))) (gm_tup (gm_cons (gm_tup (gm_cons gm_name (gm_cons gm_name gm_nil))) (gm_cons gm_name gm_nil)))
          fun q y H12 hqm e12 hy => g21 hy fun z1 z2 z3 s1 s2 s3 => ⟨rfl, Ex.rfl' _, fun H13 e13 _ _ _ _ _ => ?_⟩
        obtain ⟨iq, hiq⟩ := List.mem_iff_getElem?.mp hqm
        obtain ⟨hq1, hq2⟩ := List.getElem?_zip_eq_some.mp hiq
        obtain ⟨p', hp', _, su⟩ := co.fits r rin es hes iq q.2 hq2
        rw [hq1] at hp'
        cases hp'
        rw [rc] at su
        obtain ⟨n1, n2⟩ := fit_ev so hom su
        have e0_13 : Ex H H13 := ((e0.tr e7_10).tr e12).tr e13
        exact cE (f_value_for T E') (⟨st, o, q.2, evE (rowAt st o) q.2⟩, q.1.2) hr ⟨n1, n2⟩ (da_cons rlEx (mo_sto rlEx) (vst 0 hst e0_13) (ar3 (vdm 7 p1 ((e7_10.tr e12).tr e13)) (vd 17 (rlEx.dp e13 s2)) (vd 15 (rlEx.dp e13 s3))))
      · show PyData.tuple _ = PyData.tuple _
        unfold newVals
        rw [hes, List.map_map]
        rfl
      refine tail vv _ _ _ _ H11 _ (e7_10.tr e11) (by rw [ech]; exact q11) (by rw [ech]) (by rw [ech]) fun H8 x1 x2 x3 => ⟨_, _, _, _, _, _, _, rfl, x1, ⟨_, hys⟩, x2, x3⟩
  · rintro b xs H6 σ' H' e6 hq6 hd6 ⟨b1, b2, b3, b4, b5, b6, b7, rfl, ex, ⟨ys, hys⟩, ro, acc, hacc, lacc, dacc⟩
    have e0 : Ex H H' := e03.tr ex
    rw [List.length_map, List.take_length] at dacc
    refine bs_ret (φ := HSto K (chSto st rs)) (de_imp (de_tupR (φs := [Hs K (schAfter st.sch rs), Hd K (.int st.lim), Hd K (.tuple ((chSto st rs).obs.map dOb))]) (da_cons rlEx (mo_fz rlEx) (cE (f_schema_after T) (st.sch, rs) hr ⟨co.inn, Nat.lt_trans so.few.1 (by decide)⟩ (da_cons rlEx (mo_fz rlEx) (vf 2 hs e0) (da_cons rlEx (mo_d rlEx) (vdm 1 h2 e0) (da_nil rlEx)))) (ar2 (vd 3 (.int _)) (de_tupleL rlEx rfl T.z_tuple (vd 6 (.lst (.inl (.inl hacc)) ?_))))) ?_ ?_) (fun v' H4 e4 hv => ?_) rlEx) rlEx fun v' H4 e4 q => hQ v' H4 (e0.tr e4) q
    · show DpAll K H' acc ((st.obs.map (chOb st rs)).map dOb)
      rw [List.map_map]
      exact dacc
    · intro vs H4 q
      obtain ⟨y1, y2, y3, rfl, _⟩ := all3 q
      show 3 ≤ sizeLine
      decide
    · intro vs H4 H5 e q
      obtain ⟨y1, y2, y3, rfl, q1, q2, q3⟩ := all3 q
      exact all2_cons (mo_fz rlEx _ _ _ e q1) (all2_cons (rlEx.dp e q2) (all2_cons (rlEx.dp e q3) rfl))
    · obtain ⟨q, vs, rfl, hq, qs⟩ := hv
      obtain ⟨y1, y2, y3, rfl, q1, q2, q3⟩ := all3 qs
      obtain rfl := dp_int q2
      exact ⟨q, y1, y3, rfl, .inl (.inl hq), q1, q3⟩
end
end Lf
set_option maxHeartbeats 4000000
/-! K16: made, with one value. -/
namespace Lf
open PySem PySem.Spec L2
open PyProof.Rows hiding St
/-- t + u, tuples of data -/
theorem de_catT {X : Cx} {R : Rel} {σ : St} {H : Hp} {a b : Expr} {pos : Pos} {ds es : List PyData} (r : Rl R) (ha : PE X a (tG R σ H (Hd X.K (.tuple ds)))) (hb : PE X b (tG R σ H (Hd X.K (.tuple es)))) (hz : ds.length + es.length ≤ sizeLine) : PE X (.BinOp a .Add b pos) (tG R σ H (Hd X.K (.tuple (ds ++ es)))) :=
  de_op r op_catA ha (mo_d r) hb fun x y H2 _ p q Q k => by
    obtain ⟨l, xs, rfl, h1, d1⟩ := dp_tup p
    obtain ⟨m, ys, rfl, h2, d2⟩ := dp_tup q
    refine ⟨l, m, xs, ys, rfl, rfl, h1, h2, by rw [DpAll.length d1, DpAll.length d2]; exact hz, fun e => ?_, fun _ e => ?_, fun _ _ q hq => k _ _ (r.ex (Ex.new hq)) (.tup (.inl (.inl upd_same)) (r.dpAll (r.ex (Ex.new hq)) (DpAll.app d1 d2)))⟩
    · subst e
      cases d1
      exact k _ H2 (r.refl _) (.tup h2 d2)
    · subst e
      cases d2
      rw [List.append_nil] at k
      exact k _ H2 (r.refl _) (.tup h1 d1)
/-- x(e, ..), x a def of the module, however it binds -/
theorem de_callR {X : Cx} {σ : St} {H : Hp} {e : Expr} {es : List Expr} {p pos : Pos} {nm : Str} {k j : Nat} {f : Addr} {τ : Type} {R' : τ → Rel} {Pre : τ → Prop} {A : τ → List Pv} {B : τ → Pv} (F : FnR X.prog X.w X.K X.mg X.base CX0 k f (spT R' Pre A B)) (hk : PySem.W.keepIn X.K (.ref f) = true) (hm : X.mg nm = some (.ref f)) (x : τ) (hr : Room j X.A) (le : k ≤ j) (pre : Pre x) (lr : ∀ a b, R' x a b → Ex a b) (hg : Gl X nm) (ha : PA X (e :: es) (tA Ex σ H (A x)))
    (hdb : (nm == ("__debug__" : Str)) = false := by decide) (he : starEach (e :: es) X.env = (false, eval e X.env) :: starEach es X.env := by rfl) (hpl : (backTo pos (starEach es X.env)).any (·.1) = false := by rfl) : PE X (.Call (.Name nm p) (e :: es) [] pos) (tG Ex σ H (B x)) := by
  refine ⟨fun pins s σ' H' Q I ⟨e1, h1, kk⟩ => ?_⟩
  subst e1
  refine wpAny_Call_Name_kw (ld_glob I hg hm ?_ hdb)
  refine PySem.W.callWith_K (h₀ := X.base) I.ok.mod.kin hk (thn (ha.run pos pins s σ' H' (fun vs H1 => Ex H' H1 ∧ All2 (A x) vs H1) I ⟨rfl, h1, fun vs H1 h2 q => ⟨h2, q⟩⟩) fun us s1 ⟨vs, H1, I1, r, h2, q⟩ => ⟨I1.kIn, ?_⟩) he hpl
  refine wpAny_call (codeAny_mono (run_fnR (E := E0) (Q := Q) F (hr.mono le) pass0 I1 r ⟨x, pre, q, fun v H2 h3 b => kk v H2 (h2.tr (lr _ _ h3)) b⟩) fun rr s' hq => ?_)
  cases rr with
  | error e => exact hq
  | ok fl =>
    cases fl with
    | ret u => exact hq
    | next => exact hq.elim
    | brk => exact hq.elim
    | cont => exact hq.elim
structure MdX where
  st : Sto
  c : Str
  f : Str
  lo : Int
  hi : Int
  i : Int
structure MdX.ok (x : MdX) : Prop where
  nd : (x.st.sch.map (·.1)).Nodup
  nm : nmOk x.c
  fm : fnd x.c x.st.sch = some [(x.f, .rng x.lo x.hi)]
  lo : x.lo ≤ x.i
  hi : x.i ≤ x.hi
  few : x.st.obs.length < 900
def MdX.out (x : MdX) : PyData := .tuple [dSch x.st.sch, .int (x.st.lim + 1), .tuple (x.st.obs.map dOb ++ [.tuple [.int x.st.lim, .str x.c, .tuple [.int x.i]]])]
section
variable {P : Program} {w : World} {K : Fg} {mg : Str → Option Value} {base : Heap}
abbrev spStep (K : Fg) : Sp := spT (fun _ => Ex) (fun _ : PyData × Str => True) (fun x => [Hd K (.bool true), Hd K x.1, Hd K (.str x.2)]) (fun _ => Hd K .none)
theorem f_require_step (T : Tx K mg) : Fnc P w K mg base 1 "require_step" (spStep K) := by
  refine ⟨T.g_require_step, fna_of T.d_require_step sc_require_step bn_require_step (fun _ => rfl) fun cdv A0 outer s H E x vs Q hr _ ha hQ => ?_⟩
  obtain ⟨v, u, t, rfl, h1, h2, h3⟩ := all3 ha
  refine bs_when (t := false) rlEx (dt_is (dt_not (dt_val rlEx (vd 0 h1))) rfl) (fun z => by cases z) fun _ H1 e1 => bs_nil ?_
  exact hQ _ _ e1 .non
abbrev spIsVal (K : Fg) : Sp := spT (fun _ => Ex) (fun x : PyData × Int × Int × Int => x.2.1 ≤ x.2.2.2 ∧ x.2.2.2 ≤ x.2.2.1) (fun x => [Hd K x.1, Hd K (dK (.rng x.2.1 x.2.2.1)), Hd K (.int x.2.2.2)]) (fun _ => Hd K (.bool true))
theorem f_is_value (T : Tx K mg) : Fnc P w K mg base 2 "is_value" (spIsVal K) := by
  refine ⟨T.g_is_value, fna_of T.d_is_value sc_is_value bn_is_value (fun _ => rfl) fun cdv A0 outer s H E x vs Q hr ok ha hQ => ?_⟩
  obtain ⟨d, lo, hi, i⟩ := x
  obtain ⟨v, u, t, rfl, h1, h2, h3⟩ := all3 ha
  obtain ⟨o1, o2⟩ := ok
  have o1 : lo ≤ i := o1
  have o2 : i ≤ hi := o2
  have h2 : Dp K H u (.tuple [.int lo, .int hi]) := h2
  have h3 : Dp K H t (.int i) := h3
  refine bs_when (t := true) rlEx (dt_val rlEx (de_isi rlEx rfl T.z_isinstance (vd 1 h2) (vty rlEx T.z_tuple) (kit_Tup (.tuple [.int lo, .int hi])))) (fun _ H1 e1 => ?_) (fun z => by cases z)
  refine bs_ret (φ := Hd K (.bool true)) (de_is (de_and (c := true) (c' := true) rlEx (cE (f_is_integer T) (.int i) hr trivial (ar1 (vdm 2 h3 e1))) fun _ => de_one (de_is (de_chainI rlEx op_le op_le (de_ixT (d := .int lo) rlEx (vdm 1 h2 e1) (de_int rlEx) rfl) (vdm 2 h3 e1) (de_ixT (d := .int hi) rlEx (vdm 1 h2 e1) (de_int rlEx) rfl)) ?_)) rfl) rlEx fun v' H4 e4 q => hQ v' H4 (e1.tr e4) q
  simp [o1, o2]
abbrev spMade (K : Fg) : Sp := spT (fun _ => Ex) (fun x : MdX => x.ok) (fun x => [HSto K x.st, Hd K (.str x.c), Hd K (.int x.i)]) (fun x => Hd K x.out)

theorem bn_made : ∀ (kV doc pm : Value) (an : Option Addr) (cdv ct : Value) (us rest : List Value), us.length = ["plain", "cls"].length → bindArgs (PySem.W.fnOf "made" "made" (defArgs s_made) (defBody s_made) (defScope s_made) .none kV doc pm an cdv ct) ⟨us ++ rest, []⟩ = (newTuple rest >>= fun t => pure ((["plain", "cls"] : List Str).zip us ++ [(("values" : Str), t)])) :=
  fun kV doc pm an cdv ct => StX.bind_star2 (p1 := "plain") (p2 := "cls") (pv := "values") (B := fun us => bindArgs (PySem.W.fnOf "made" "made" (defArgs s_made) (defBody s_made) (defScope s_made) .none kV doc pm an cdv ct) ⟨us, []⟩) (fun _ _ => rfl) (fun _ _ _ _ => rfl)
theorem f_made (T : Tx K mg) : FnR P w K mg base CX0 5 (He.ga K "made") (spMade K) := by
  obtain ⟨fd, F⟩ := T.d_made.ex
  obtain ⟨oc, od, dV, kV, doc, pm, an, cdv, ct, osl, rfl, lk, hcd, dv, _⟩ := F.ex
  obtain rfl : dV = .none := by
    rcases dv with ⟨_, e⟩ | ⟨e, _⟩
    · exact e
    · exact absurd rfl e
  have main := StX.fn_star (P := P) (w := w) (mg := mg) (base := base) (k := 4) (CX := CX0) (N := ["plain", "cls", "values", "schema", "following", "objects", "step", "forms", "form", "good", "one", "field", "kind"]) (ps := ["plain", "cls"]) (pv := "values") (sp := fun vs H Q E => ∃ (x : MdX) (v u : V) (q : Addr), vs = [v, u, .ref q] ∧ x.ok ∧ HSto K x.st v H ∧ Dp K H u (.str x.c) ∧ Dp K H (.ref q) (.tuple [.int x.i]) ∧ ∀ v H', Ex H H' → Hd K x.out v H' → Q v H')
    lk hcd sc_made StX.cxUp_none (bn_made kV doc pm an cdv ct) (fun A0 outer s H vs Q E hr ⟨x, v, u, q, ev, ok, h1, h2, h3, hQ⟩ => ?_)
  · refine main.imp fun vs H Q E ⟨x, ok, a, hQ⟩ => ?_
    obtain ⟨v, u, t, rfl, h1, h2, h3⟩ := all3 a
    exact ⟨[v, u], [t], rfl, rfl, by show 1 ≤ sizeLine; decide, fun q hq => ⟨x, v, u, q, rfl, ok, mo_sto rlEx _ _ _ (Ex.new hq) h1, rlEx.dp (Ex.new hq) h2, .tup (.inl (.inl upd_same)) (.cons (rlEx.dp (Ex.new hq) h3) .nil), fun v' H' e b => hQ v' H' ((Ex.new hq).tr e) b⟩⟩
  subst ev
  refine ⟨tAt (start ["plain", "cls", "values", "schema", "following", "objects", "step", "forms", "form", "good", "one", "field", "kind"] [v, u, .ref q]) H { nx := fun _ H' => Q .non H', rt := Q }, PSs.nox ?_, rfl, rfl, rfl⟩
  have hst := h1
  obtain ⟨pa, sv, ov, rfl, hq, hs, ho⟩ := h1
  obtain ⟨nd, nm, fm, lo, hi, few⟩ := ok
  have big : 1000 ≤ sizeLine := by decide
  have hs : IsFz K (x.st.sch.map fun p => .tuple [.str p.1, dForm p.2]) sv H := hs
  refine bs_asg (g := gTup K 3 (gCons (gName 3) (gCons (gName 4) (gCons (gName 5) gNil)))) rlEx (pg_tup (X := _) rfl (pgs_cons (pg_name (i := 3) sc_made.nd rfl (.inl rfl)) (pgs_cons (pg_name (i := 4) sc_made.nd rfl (.inl rfl)) (pgs_cons (pg_name (i := 5) sc_made.nd rfl (.inl rfl)) pgs_nil)))) (de_var (φ := Hv (.ref pa)) (i := 0) rlEx rfl mo_v rfl rfl (by first | exact .inl rfl | exact .inr (.inl rfl) | exact .inr (.inr rfl))) fun v1 H1 e1 ev => ?_
  subst ev
  refine ⟨pa, _, rfl, rlEx.sqT e1 hq, rfl, sv, _, rfl, .int x.st.lim, _, rfl, ov, _, rfl, rfl, ?_⟩
  have ho1 : Dp K H1 ov (.tuple (x.st.obs.map dOb)) := rlEx.dp e1 ho
  -- step, forms
  refine bs_par (i := 6) (j := 7) (φ := Hd K (.tuple [.str "make", .str x.c, .tuple [.int x.i]])) (ψ := IsDic K (x.st.sch.map (kf dForm))) rlEx rfl sc_made.nd rfl rfl (by decide) rfl rfl (da_cons rlEx (mo_d rlEx) (de_tup rlEx (dd_cons rlEx (de_str rlEx) (dd_cons rlEx (vdm 1 h2 e1) (dd_cons rlEx (vdm 2 h3 e1) (dd_nil rlEx))))) (da_cons rlEx mo_dic (de_dictF rfl rfl T.z_dict (vf 3 hs e1) nd) (da_nil rlEx))) fun sp fv H2 e2 hsp hfv => ?_
  have e02 := e1.tr e2
  have fk : fndK (Sum.inr x.c) (x.st.sch.map (kf dForm)) = some (dForm [(x.f, .rng x.lo x.hi)]) := by rw [fndK_of, fm]; rfl
  refine bs_expr rlEx (cE (f_require_step T) (.tuple [.str "make", .str x.c, .tuple [.int x.i]], "class") hr trivial (ar3 (d1 := .bool true) (de_is (de_and (c := true) (c' := true) rlEx (cE (f_is_name T) x.c hr nm (ar1 (vdm 1 h2 e02))) fun _ => de_one (de_is (de_inD hr (vdm 1 h2 e02) (vdc 7 hfv (Ex.rfl' _))) (by rw [fk]; rfl))) rfl) (vd 6 hsp) (de_str rlEx))) fun _ H3 e3 _ => ?_
  have e03 := e02.tr e3
  refine bs_set (i := 8) (φ := Hd K (.tuple [.tuple [.str x.f, .tuple [.int x.lo, .int x.hi]]])) rlEx sc_made.nd rfl (.inl rfl) (de_getD (k := .inr x.c) hr (vdc 7 hfv e3) (vdm 1 h2 e03) key_str fk) fun mv H4 e4 hm => ?_
  have e04 := e03.tr e4
  refine bs_expr rlEx (cE (f_require_step T) (.tuple [.str "make", .str x.c, .tuple [.int x.i]], "values") hr trivial (ar3 (d1 := .bool true) (de_is (de_eqI rlEx (de_lenT (ds := [.int x.i]) rlEx rfl T.z_len (vdm 2 h3 e04)) (de_lenT (ds := [.tuple [.str x.f, .tuple [.int x.lo, .int x.hi]]]) rlEx rfl T.z_len (vd 8 hm))) rfl) (vdm 6 hsp (e3.tr e4)) (de_str rlEx))) fun _ H5 e5 _ => ?_
  have e05 := e04.tr e5
  refine bs_setLc (i := 9) (own := [("one", 10), ("field", 11), ("kind", 12)]) (g := gTup K 2 (gCons (gTup K 2 (gCons (gName 11) (gCons (gName 12) gNil))) (gCons (gName 10) gNil))) (bo := fun _ : PyData × PyData => true) (eo := fun _ => PyData.bool true) rlEx rfl sc_made.nd rfl rfl (sw_true rfl rfl rfl (by decide +kernel)) (blkOk_by (N := ["plain", "cls", "values", "schema", "following", "objects", "step", "forms", "form", "good", "one", "field", "kind"]) (sc := defScope s_made) (by decide +kernel))
    (src_zipT (l := [PyData.tuple [.str x.f, .tuple [.int x.lo, .int x.hi]]]) (m := [PyData.int x.i]) (f := id) (g := id) rlEx rfl T.z_zip (vdm 8 hm e5) (vdm 2 h3 e05)) (by show 1 < sizeLine; decide) (fun _ _ => rfl)
    (fun _ _ _ _ _ => pg_tup (X := _) rfl (pgs_cons (pg_tup (X := _) rfl (pgs_cons (pg_name (i := 11) sc_made.nd rfl (.inl rfl)) (pgs_cons (pg_name (i := 12) sc_made.nd rfl (.inl rfl)) pgs_nil))) (pgs_cons (pg_name (i := 10) sc_made.nd rfl (.inl rfl)) pgs_nil))) (gm_tup (gm_cons (gm_tup (gm_cons gm_name (gm_cons gm_name gm_nil))) (gm_cons gm_name gm_nil)))
    (fun q y H6 hqm e6 hy => ?_) fun gv H7 e7 hg => ?_
  · obtain rfl : q = (PyData.tuple [.str x.f, .tuple [.int x.lo, .int x.hi]], PyData.int x.i) := by simpa using hqm
    refine g21 hy fun z1 z2 z3 s1 s2 s3 => ⟨rfl, Ex.rfl' _, fun _ _ _ _ _ => dts_nil rlEx rfl, fun _ H8 e8 _ _ _ _ _ => ?_⟩
    exact cE (f_is_value T) (dSto x.st, x.lo, x.hi, x.i) hr ⟨lo, hi⟩ (ar3 (vdm 0 (sto_dp hst) ((e05.tr e6).tr e8)) (vd 12 (rlEx.dp e8 s2)) (vd 10 (rlEx.dp e8 s3)))
  have e07 := e05.tr e7
  refine bs_expr rlEx (cE (f_require_step T) (.tuple [.str "make", .str x.c, .tuple [.int x.i]], "values") hr trivial (ar3 (d1 := .bool true) (de_is (de_all (bs := [true]) rlEx rfl rfl T.z_all (vd 9 hg)) rfl) (vdm 6 hsp (((e3.tr e4).tr e5).tr e7)) (de_str rlEx))) fun _ H8 e8 _ => ?_
  have e08 := e07.tr e8
  refine bs_ret (φ := Hd K x.out) (de_tup rlEx (dd_cons rlEx (de_is (d := dSch x.st.sch) (vdm 3 (hs_dp hs) e08) rfl) (dd_cons rlEx (de_opI0 rlEx op_add (vd 4 (.int _)) (de_int rlEx)) (dd_cons rlEx (de_catT rlEx (vdm 5 ho e08) (de_tup rlEx (dd_cons rlEx (de_tup rlEx (dd_cons rlEx (vd 4 (.int _)) (dd_cons rlEx (vdm 1 h2 e08) (dd_cons rlEx (vdm 2 h3 e08) (dd_nil rlEx))))) (dd_nil rlEx))) ?_) (dd_nil rlEx))))) rlEx fun v' H9 e9 q => hQ v' H9 (e08.tr e9) q
  rw [List.length_map]
  show x.st.obs.length + 1 ≤ sizeLine
  omega
end
end Lf
set_option maxHeartbeats 4000000
/-! Cv1: the conversions' classes: what is asked of the head; their making. -/
namespace Lf
open PySem PySem.Spec L2
open PyProof.Rows hiding St wpAt wpAt_bind wpAt_mono
/-- a def with the class cell, as it stands behind the top -/
structure DfK (K : Fg) (P : Program) (f cc D : Addr) (nm qual : Str) (st : Stmt) : Prop where
  ex : ∃ (oc : Value) (od : Option Addr) (kV doc pm : Value) (an : Option Addr) (cdv ct : Value) (osl : Array (Option Value)) (cv : Option Value),
    K.lookup f = some ⟨oc, od, .func (PySem.W.fnX nm qual (defArgs st) (defBody st) (defScope st) [(cname, cc)] .none kV doc pm an cdv ct), osl⟩ ∧ PySem.W.codeIn K cdv qual = true ∧ (∃ o, K.lookup cc = some o ∧ o.data = .cell cv) ∧ SupD K P f cdv cc D
  top : (P.main.scope.names.lookup ("super" : Str)).isSome = false
section
variable {P : Program} {w : World} {K : Fg} {mg : Str → Option Value} {base : Heap} {f cc D : Addr} {nm qual : Str} {st : Stmt} {N ps : List Str} {τ : Type} {R : τ → Rel} {Pre : τ → Prop} {A : τ → List Pv} {B : τ → Pv} {k : Nat}
/-- a body's promise -/
abbrev BdK (P : Program) (w : World) (K : Fg) (mg : Str → Option Value) (base : Heap) (f cc D : Addr) (qual : Str) (st : Stmt) (N : List Str) (k : Nat) (R : τ → Rel) (Pre : τ → Prop) (A : τ → List Pv) (B : τ → Pv) : Prop :=
  ∀ (cdv : Value) (A0 : Around) (outer : List Env) (s : Shared) (H : Hp) (x : τ) (vs : List V) (Q : VK), Room k (A0.deeper (envK qual (defScope st) s.heap.objs.size f cdv cc)) → SupD K P f cdv cc D → Pre x → All2 (A x) vs H → (∀ v H', R x H H' → B x v H' → Q v H') →
    PB (cxK P w K mg base N qual (defScope st) f cdv cc A0 outer s H) (defBody st) (defBody st) (tAt (start N vs) H { nx := fun _ H' => Q .non H', rt := Q })
theorem fnkw0 (DK : DfK K P f cc D nm qual st) (S : ScK N ps (defScope st)) (bnd : ∀ (kV doc pm : Value) (an : Option Addr) (cdv ct : Value) (us : List Value), us.length = ps.length → bindArgs (PySem.W.fnX nm qual (defArgs st) (defBody st) (defScope st) [(cname, cc)] .none kV doc pm an cdv ct) ⟨us, []⟩ = pure (ps.zip us))
    (len : ∀ x, (A x).length = ps.length) (body : BdK P w K mg base f cc D qual st N k R Pre A B) : FnKw P w K mg base (k + 1) f [] (spT R Pre A B) := by
  obtain ⟨oc, od, kV, doc, pm, an, cdv, ct, osl, cv, lk, hcd, hcc, sd⟩ := DK.ex
  intro A0 outer s H us ws vs zs Q E hr e0 r rz hl ⟨x, pre, a, q⟩
  cases zs with
  | cons z zs => cases hl
  | nil =>
    rw [List.append_nil] at a
    have lv : vs.length = ps.length := by rw [All2.length a, len x]
    refine run_k lk hcd hcc S hr e0 (G := fun xs H2 => xs = vs ∧ H2 = H) (fun A' Ex' Q' hQ => ?_) fun s2 H2 xs ⟨e1, e2⟩ hr2 => ⟨_, body cdv A0 outer s2 H2 x xs Q hr2 sd pre (by rw [e1, e2]; exact a) (by rw [e2]; exact q), rfl, rfl, rfl⟩
    have hb := bnd kV doc pm an cdv ct us (by rw [← r.length]; exact lv)
    show wpAny _ _ (bindArgs _ ⟨us, []⟩) _ _ _
    rw [hb]
    exact wpAny_pure (hQ s H vs us e0 (Un.kept fun _ _ e => e) rfl (fun _ _ z => z) r lv ⟨rfl, rfl⟩)
/-- .. with **rest: ks the keywords; what is bound: bs of the values in the parameters' order, ex what is left over -/
theorem fnkw1 {ks : List Str} {pd : Str} {n : Nat} {bs : {α : Type} → List α → List α} {rest : {α : Type} → List α → List α} {kr : List Str} (DK : DfK K P f cc D nm qual st) (S : ScK N (ps ++ [pd]) (defScope st))
    (bnd : ∀ (kV doc pm : Value) (an : Option Addr) (cdv ct : Value) (us ws : List Value), us.length = n → ws.length = ks.length → bindArgs (PySem.W.fnX nm qual (defArgs st) (defBody st) (defScope st) [(cname, cc)] .none kV doc pm an cdv ct) ⟨us, ks.zip ws⟩ =
      (alloc ({ cls := .type "dict", data := .dict #[] } : Obj) >>= fun D => (forIn (kr.zip (rest (us ++ ws))) PUnit.unit fun x _ => (nsSet D x.1 x.2 >>= fun _ => pure (ForInStep.yield PUnit.unit))) >>= fun _ => pure (ps.zip (bs (us ++ ws)) ++ [(pd, Value.ref D)])))
    (rb : ∀ {vs : List V} {us : List Value}, Vals vs us → Vals (bs vs) (bs us)) (rr : ∀ {vs : List V} {us : List Value}, Vals vs us → Vals (rest vs) (rest us)) (lb : ∀ {α : Type} (l : List α), l.length = n + ks.length → (bs l).length = ps.length) (lr : ∀ {α : Type} (l : List α), l.length = n + ks.length → (rest l).length = kr.length) (nd : kr.Nodup) (hz : kr.length ≤ 1000)
    (len : ∀ x, (A x).length = n + ks.length)
    (body : ∀ (cdv : Value) (A0 : Around) (outer : List Env) (s : Shared) (H : Hp) (x : τ) (vs : List V) (d : Addr) (Q : VK), Room k (A0.deeper (envK qual (defScope st) s.heap.objs.size f cdv cc)) → SupD K P f cdv cc D → Pre x → All2 (A x) vs H → H d = none → (∀ v H', R x H H' → B x v H' → Q v H') →
      PB (cxK P w K mg base N qual (defScope st) f cdv cc A0 outer s (upd H d (.dK (tkv (kr.zip (rest vs)))))) (defBody st) (defBody st) (tAt (start N (bs vs ++ [.ref d])) (upd H d (.dK (tkv (kr.zip (rest vs))))) { nx := fun _ H' => Q .non H', rt := Q })) :
    FnKw P w K mg base (k + 1) f ks (fun vs H Q E => vs.length = n + ks.length ∧ spT R Pre A B vs H Q E) := by
  obtain ⟨oc, od, kV, doc, pm, an, cdv, ct, osl, cv, lk, hcd, hcc, sd⟩ := DK.ex
  intro A0 outer s H us ws vs zs Q E hr e0 r rz hl ⟨ll, x, pre, a, q⟩
  have r2 : Vals (vs ++ zs) (us ++ ws) := r.append rz
  have lw : ws.length = ks.length := by rw [← rz.length]; exact hl
  have lu : us.length = n := by
    rw [List.length_append] at ll
    rw [← r.length]
    omega
  have hb := bnd kV doc pm an cdv ct us ws lu lw
  have l2 : (us ++ ws).length = n + ks.length := by rw [List.length_append, lu, lw]
  have kvr : ∀ {kr : List Str} {a : List V} {b : List Value}, Vals a b → KV (tkv (kr.zip a)) (tks (kr.zip b)) := by
    intro kr
    induction kr with
    | nil => intro a b _; exact .nil
    | cons y kr ih =>
      intro a b h
      cases h with
      | nil => exact .nil
      | cons h t => exact .cons ⟨rfl, h⟩ (ih t)
  have z1 : (kr.zip (rest (vs ++ zs))).map (·.1) = kr := List.map_fst_zip (by rw [lr _ ll]; exact Nat.le_refl _)
  refine run_k lk hcd hcc S hr e0 (bnd_kwd e0 hb (rb r2) (lb _ ll) (kvr (rr r2)) (by rw [z1]; exact nd) (by rw [List.length_zip]; exact Nat.le_trans (Nat.min_le_left _ _) hz)) fun s2 H2 xs ⟨d, hd, e1, e2⟩ hr2 => ?_
  subst e1 e2
  have b := body cdv A0 outer s2 H x (vs ++ zs) d Q hr2 sd pre a hd q
  exact ⟨_, b, rfl, rfl, rfl⟩
end
end Lf
set_option maxHeartbeats 4000000
/-! Cv2: the conversions' __init__. -/
namespace Lf
open PySem PySem.Spec L2
open PyProof.Rows hiding St wpAt wpAt_bind wpAt_mono
theorem sk_With_init : ScK ["self", "form", "field", "kind", "expression", "others"] ["self", "form", "field", "kind", "expression", "others"] (defScope s_With_init) := ⟨rfl, rfl, rfl, by decide +kernel, rfl, by decide +kernel, by decide +kernel, by decide +kernel, by decide +kernel, by decide +kernel⟩
theorem sk_Without_init : ScK ["self", "form", "field", "others"] ["self", "form", "field", "others"] (defScope s_Without_init) := ⟨rfl, rfl, rfl, by decide +kernel, rfl, by decide +kernel, by decide +kernel, by decide +kernel, by decide +kernel, by decide +kernel⟩
theorem sk_Renamed_init : ScK ["self", "form", "old", "new", "others"] ["self", "form", "old", "new", "others"] (defScope s_Renamed_init) := ⟨rfl, rfl, rfl, by decide +kernel, rfl, by decide +kernel, by decide +kernel, by decide +kernel, by decide +kernel, by decide +kernel⟩
abbrev bArgs (nm qual : Str) (st : Stmt) (cc : Addr) (kV doc pm : Value) (an : Option Addr) (cdv ct : Value) (us : List Value) (kw : List (Str × Value)) : Sem (List (Str × Value)) := bindArgs (PySem.W.fnX nm qual (defArgs st) (defBody st) (defScope st) [(cname, cc)] .none kV doc pm an cdv ct) ⟨us, kw⟩
abbrev bOut (ps : List Str) (us : List Value) (pd : Str) (kr : List (Str × Value)) : Sem (List (Str × Value)) := alloc ({ cls := .type "dict", data := .dict #[] } : Obj) >>= fun D => (forIn kr PUnit.unit fun x _ => (nsSet D x.1 x.2 >>= fun _ => pure (ForInStep.yield PUnit.unit))) >>= fun _ => pure (ps.zip us ++ [(pd, Value.ref D)])
theorem bk_With (cc : Addr) (kV doc pm : Value) (an : Option Addr) (cdv ct a b c d e : Value) : bArgs "__init__" "With.__init__" s_With_init cc kV doc pm an cdv ct [a, b] [("field", c), ("kind", d), ("expression", e)] = bOut ["self", "form", "field", "kind", "expression"] [a, b, c, d, e] "others" [] := rfl
theorem bk_Without (cc : Addr) (kV doc pm : Value) (an : Option Addr) (cdv ct a b c : Value) : bArgs "__init__" "Without.__init__" s_Without_init cc kV doc pm an cdv ct [a, b] [("field", c)] = bOut ["self", "form", "field"] [a, b, c] "others" [] := rfl
theorem bk_Renamed (cc : Addr) (kV doc pm : Value) (an : Option Addr) (cdv ct a b c d : Value) : bArgs "__init__" "Renamed.__init__" s_Renamed_init cc kV doc pm an cdv ct [a, b] [("old", c), ("new", d)] = bOut ["self", "form", "old", "new"] [a, b, c, d] "others" [] := rfl
theorem bk_Renamed3 (cc : Addr) (kV doc pm : Value) (an : Option Addr) (cdv ct a b c d e f g : Value) : bArgs "__init__" "Renamed.__init__" s_Renamed_init cc kV doc pm an cdv ct [a, b] [("old", c), ("new", d), ("field", e), ("kind", f), ("expression", g)] = bOut ["self", "form", "old", "new"] [a, b, c, d] "others" [("field", e), ("kind", f), ("expression", g)] := rfl
/-- what every class of conversions has -/
structure CvC (K : Fg) (C : Addr) : Prop where
  cls : Cls K C
  nF : NoAttr K C "form_before"
  nO : NoAttr K C "old_name"
  nN : NoAttr K C "new_name"
  nX : NoAttr K C "field_out"
  nI : NoAttr K C "field_in"
  nE : NoAttr K C "entry_in"
  dc : PySem.W.findIn K (.ref C) "__class__" = some (some (.builtin "object.__class__"))
  dg : PySem.W.specialIn K (.builtin "object.__class__") "__get__" = some (some (.builtin "getset_descriptor.__get__"))
  dt : PySem.W.takesIn K (.builtin "object.__class__") = some true
  mo : PySem.W.mroIn K C (.type "object") = some true
structure KiX where
  a : Addr
  C : Addr
  dx : Addr
  fv : V
section
variable {P : Program} {w : World} {K : Fg} {mg : Str → Option Value} {base : Heap}
theorem supx {f cc D : Addr} {qual : Str} {sc : Scope} {N ps : List Str} {cdv : Value} {A0 : Around} {outer : List Env} {s : Shared} {H : Hp} (S : ScK N ps sc) (sd : SupD K P f cdv cc D) (s0 : sc.names.lookup ("super" : Str) = some .globalImplicit) (z : mg "super" = none) (n0 : N[0]? = some ("self" : Str))
    (lo : sc.names.lookup ("self" : Str) = some .local ∨ sc.names.lookup ("self" : Str) = some .cell) (top : (P.main.scope.names.lookup ("super" : Str)).isSome = false) : SupX (cxK P w K mg base N qual sc f cdv cc A0 outer s H) f cc D :=
  ⟨sd, rfl, look_cls S, s0, S.cls, z, n0, lo, top⟩
abbrev kIni (K : Fg) : Addr := He.ma K (He.ga K "Kept") "__init__"
abbrev spKi (K : Fg) : Sp := spT (fun x : KiX => RO x.a) (fun x => CvC K x.C) (fun x => [fun v H => v = .ref x.a ∧ H x.a = some (.ins x.C x.dx []), Hv x.fv]) (fun x v H' => v = .non ∧ H' x.a = some (.ins x.C x.dx [("form_before", x.fv)]))
theorem f_Kept_init (T : Tx K mg) : Fna P w K mg base 1 (kIni K) (spKi K) := by
  refine fna_of T.d_Kept_init sc_Kept_init bn_Kept_init (fun _ => rfl) fun cdv A0 outer s H E x vs Q hr ok ha hQ => ?_
  obtain ⟨v, u, rfl, ⟨rfl, hi⟩, rfl⟩ := all2 ha
  refine bs_fld (C := x.C) (φ := Hv x.fv) (de_var (i := 1) rlEx rfl mo_v rfl rfl (.inl rfl)) mo_v (de_var (i := 0) rlEx rfl mo_v rfl rfl (.inl rfl)) hi ok.cls ok.nF (by simp) fun v' H1 e1 ev => bs_nil ?_
  subst ev
  exact hQ _ _ (RO.tr (RO.of e1) RO.upd) ⟨rfl, upd_same⟩
structure WiX extends KiX where
  f : V
  k : V
  e : V
/-- With(..) as it stands -/
def WiAt (x : WiX) (more : List (Str × V)) (H : Hp) : Prop := ∃ t, H x.a = some (.ins x.C x.dx (([("form_before", x.fv), ("field_in", x.f), ("entry_in", .ref t)] : List (Str × V)) ++ more)) ∧ t ≠ x.a ∧ H t = some (.tup [x.k, x.e])
abbrev spWi (K : Fg) : Sp := spT (fun x : WiX => RO x.a) (fun x => CvC K x.C ∧ SupC K x.C (He.ga K "With") "__init__" (kIni K)) (fun x => [fun v H => v = .ref x.a ∧ H x.a = some (.ins x.C x.dx []), Hv x.fv, Hv x.f, Hv x.k, Hv x.e]) (fun x v H' => v = .non ∧ WiAt x [] H')
theorem len2 {α : Type} {l : List α} (h : l.length = 2) : ∃ a b, l = [a, b] := by
  match l, h with
  | [a, b], _ => exact ⟨a, b, rfl⟩
theorem len1 {α : Type} {l : List α} (h : l.length = 1) : ∃ a, l = [a] := by
  match l, h with
  | [a], _ => exact ⟨a, rfl⟩
theorem len3 {α : Type} {l : List α} (h : l.length = 3) : ∃ a b c, l = [a, b, c] := by
  match l, h with
  | [a, b, c], _ => exact ⟨a, b, c, rfl⟩
theorem len5 {α : Type} {l : List α} (h : l.length = 5) : ∃ a b c d e, l = [a, b, c, d, e] := by
  match l, h with
  | [a, b, c, d, e], _ => exact ⟨a, b, c, d, e, rfl⟩
theorem all5 {φ1 φ2 φ3 φ4 φ5 : Pv} {vs : List V} {H : Hp} (h : All2 [φ1, φ2, φ3, φ4, φ5] vs H) : ∃ a b c d e, vs = [a, b, c, d, e] ∧ φ1 a H ∧ φ2 b H ∧ φ3 c H ∧ φ4 d H ∧ φ5 e H := by
  obtain ⟨a, r, rfl, h1, b, r2, rfl, h2, c, r3, rfl, h3, d, r4, rfl, h4, e, r5, rfl, h5, rfl⟩ := h
  exact ⟨a, b, c, d, e, rfl, h1, h2, h3, h4, h5⟩
theorem f_With_init {f cc : Addr} (T : Tx K mg) (DK : DfK K P f cc (He.ga K "With") "__init__" "With.__init__" s_With_init) (fi : PySem.W.fnIn K (kIni K) = true) :
    FnKw P w K mg base 2 f ["field", "kind", "expression"] (fun vs H Q E => vs.length = 5 ∧ spWi K vs H Q E) := by
  refine fnkw1 (ps := ["self", "form", "field", "kind", "expression"]) (pd := "others") (n := 2) (bs := fun l => l) (rest := fun _ => []) (kr := []) DK sk_With_init (fun kV doc pm an cdv ct us ws l1 l2 => ?_) (fun r => r) (fun _ => .nil) (fun _ h => h) (fun _ _ => rfl) .nil (Nat.zero_le _) (fun _ => rfl) fun cdv A0 outer s H x vs d Q hr sd ok ha hd hQ => ?_
  · obtain ⟨a, b, rfl⟩ := len2 l1
    obtain ⟨c, e, g, rfl⟩ := len3 l2
    exact bk_With cc kV doc pm an cdv ct a b c e g
  obtain ⟨v, fv, fd, kd, ex, rfl, ⟨rfl, hi⟩, rfl, rfl, rfl, rfl⟩ := all5 ha
  obtain ⟨co, sc⟩ := ok
  have nd : d ≠ x.a := fun z => by rw [z, hi] at hd; cases hd
  have hi2 : (upd H d (.dK [])) x.a = some (.ins x.C x.dx []) := by rw [upd_ne (Ne.symm nd)]; exact hi
  refine pb_expr (eb_superK (j := 5) (kv := []) (φ := Hv x.fv) (supx sk_With_init sd rfl T.z_super rfl (.inl rfl) DK.top) sc fi ((fna_kw (f_Kept_init T)).imp fun _ _ _ _ h => h) hr rfl hi2 mo_v (fun q hq => de_var (i := 1) rlEx rfl mo_v rfl rfl (.inl rfl)) rfl rfl (.inl rfl) upd_same) ⟨rfl, rfl, fun v1 H1 e1 ev => ?_⟩ rfl
  subst ev
  refine ⟨⟨x.a, x.C, x.dx, x.fv⟩, co, all2_cons ⟨rfl, e1 _ _ hi2⟩ (all2_cons rfl rfl), fun v2 H2 r2 ⟨_, b2⟩ => ?_⟩
  have b2 : H2 x.a = some (.ins x.C x.dx [("form_before", x.fv)]) := b2
  have r2 : RO x.a H1 H2 := r2
  refine bs_fld (C := x.C) (φ := Hv x.f) (de_var (i := 2) rlEx rfl mo_v rfl rfl (.inl rfl)) mo_v (de_var (i := 0) rlEx rfl mo_v rfl rfl (.inl rfl)) b2 co.cls co.nI (by simp) fun v3 H3 e3 ev => ?_
  subst ev
  refine bs_fld (C := x.C) (φ := fun v H' => ∃ q vs, v = .ref q ∧ H' q = some (.tup vs) ∧ All2 [Hv x.k, Hv x.e] vs H') (de_tupR (da_cons rlEx mo_v (de_var (i := 3) rlEx rfl mo_v rfl rfl (.inl rfl)) (da_cons rlEx mo_v (de_var (i := 4) rlEx rfl mo_v rfl rfl (.inl rfl)) (da_nil rlEx))) (fun vs H' q => ?_) (fun vs H' H'' e q => ?_)) (fun v a b e ⟨q, vs, q1, q2, q3⟩ => ⟨q, vs, q1, e _ _ q2, ?_⟩) (de_var (i := 0) rlEx rfl mo_v rfl rfl (.inl rfl)) upd_same co.cls co.nE (by show 2 < 1000; omega) fun v4 H4 e4 hv => bs_nil ?_
  · obtain ⟨y1, y2, rfl, _⟩ := all2 q
    show 2 ≤ sizeLine
    decide
  · obtain ⟨y1, y2, rfl, q1, q2⟩ := all2 q
    exact all2_cons q1 (all2_cons q2 rfl)
  · obtain ⟨y1, y2, rfl, q1, q2⟩ := all2 q3
    exact all2_cons q1 (all2_cons q2 rfl)
  · obtain ⟨t, ws, rfl, ht, hws⟩ := hv
    obtain ⟨y1, y2, rfl, rfl, rfl⟩ := all2 hws
    have ne : t ≠ x.a := fun z => by
      have g := e4 _ _ upd_same
      rw [z, g] at ht
      cases ht
    refine hQ _ _ (RO.tr (RO.of (Ex.new hd)) (RO.tr (RO.of e1) (RO.tr r2 (RO.tr (RO.of e3) (RO.tr RO.upd (RO.tr (RO.of e4) RO.upd)))))) ⟨rfl, t, ?_, ne, by rw [upd_ne ne]; exact ht⟩
    exact upd_same
structure WoX extends KiX where
  f : V
abbrev spWo (K : Fg) : Sp := spT (fun x : WoX => RO x.a) (fun x => CvC K x.C ∧ SupC K x.C (He.ga K "Without") "__init__" (kIni K)) (fun x => [fun v H => v = .ref x.a ∧ H x.a = some (.ins x.C x.dx []), Hv x.fv, Hv x.f]) (fun x v H' => v = .non ∧ H' x.a = some (.ins x.C x.dx [("form_before", x.fv), ("field_out", x.f)]))
theorem f_Without_init {f cc : Addr} (T : Tx K mg) (DK : DfK K P f cc (He.ga K "Without") "__init__" "Without.__init__" s_Without_init) (fi : PySem.W.fnIn K (kIni K) = true) :
    FnKw P w K mg base 2 f ["field"] (fun vs H Q E => vs.length = 3 ∧ spWo K vs H Q E) := by
  refine fnkw1 (ps := ["self", "form", "field"]) (pd := "others") (n := 2) (bs := fun l => l) (rest := fun _ => []) (kr := []) DK sk_Without_init (fun kV doc pm an cdv ct us ws l1 l2 => ?_) (fun r => r) (fun _ => .nil) (fun _ h => h) (fun _ _ => rfl) .nil (Nat.zero_le _) (fun _ => rfl) fun cdv A0 outer s H x vs d Q hr sd ok ha hd hQ => ?_
  · obtain ⟨a, b, rfl⟩ := len2 l1
    obtain ⟨c, rfl⟩ := len1 l2
    exact bk_Without cc kV doc pm an cdv ct a b c
  obtain ⟨v, fv, fd, rfl, ⟨rfl, hi⟩, rfl, rfl⟩ := all3 ha
  obtain ⟨co, sc⟩ := ok
  have nd : d ≠ x.a := fun z => by rw [z, hi] at hd; cases hd
  have hi2 : (upd H d (.dK [])) x.a = some (.ins x.C x.dx []) := by rw [upd_ne (Ne.symm nd)]; exact hi
  refine pb_expr (eb_superK (j := 3) (kv := []) (φ := Hv x.fv) (supx sk_Without_init sd rfl T.z_super rfl (.inl rfl) DK.top) sc fi ((fna_kw (f_Kept_init T)).imp fun _ _ _ _ h => h) hr rfl hi2 mo_v (fun q hq => de_var (i := 1) rlEx rfl mo_v rfl rfl (.inl rfl)) rfl rfl (.inl rfl) upd_same) ⟨rfl, rfl, fun v1 H1 e1 ev => ?_⟩ rfl
  subst ev
  refine ⟨⟨x.a, x.C, x.dx, x.fv⟩, co, all2_cons ⟨rfl, e1 _ _ hi2⟩ (all2_cons rfl rfl), fun v2 H2 r2 ⟨_, b2⟩ => ?_⟩
  have b2 : H2 x.a = some (.ins x.C x.dx [("form_before", x.fv)]) := b2
  have r2 : RO x.a H1 H2 := r2
  refine bs_fld (C := x.C) (φ := Hv x.f) (de_var (i := 2) rlEx rfl mo_v rfl rfl (.inl rfl)) mo_v (de_var (i := 0) rlEx rfl mo_v rfl rfl (.inl rfl)) b2 co.cls co.nX (by simp) fun v3 H3 e3 ev => bs_nil ?_
  subst ev
  exact hQ _ _ (RO.tr (RO.of (Ex.new hd)) (RO.tr (RO.of e1) (RO.tr r2 (RO.tr (RO.of e3) RO.upd)))) ⟨rfl, upd_same⟩
structure RnX extends KiX where
  o : V
  n : V
abbrev spRn (K : Fg) : Sp := spT (fun x : RnX => RO x.a) (fun x => CvC K x.C ∧ SupC K x.C (He.ga K "Renamed") "__init__" (kIni K)) (fun x => [fun v H => v = .ref x.a ∧ H x.a = some (.ins x.C x.dx []), Hv x.fv, Hv x.o, Hv x.n]) (fun x v H' => v = .non ∧ H' x.a = some (.ins x.C x.dx [("form_before", x.fv), ("old_name", x.o), ("new_name", x.n)]))
theorem f_Renamed_init {f cc : Addr} (T : Tx K mg) (DK : DfK K P f cc (He.ga K "Renamed") "__init__" "Renamed.__init__" s_Renamed_init) (fi : PySem.W.fnIn K (kIni K) = true) :
    FnKw P w K mg base 2 f ["old", "new"] (fun vs H Q E => vs.length = 4 ∧ spRn K vs H Q E) := by
  refine fnkw1 (ps := ["self", "form", "old", "new"]) (pd := "others") (n := 2) (bs := fun l => l) (rest := fun _ => []) (kr := []) DK sk_Renamed_init (fun kV doc pm an cdv ct us ws l1 l2 => ?_) (fun r => r) (fun _ => .nil) (fun _ h => h) (fun _ _ => rfl) .nil (Nat.zero_le _) (fun _ => rfl) fun cdv A0 outer s H x vs d Q hr sd ok ha hd hQ => ?_
  · obtain ⟨a, b, rfl⟩ := len2 l1
    obtain ⟨c, e, rfl⟩ := len2 l2
    exact bk_Renamed cc kV doc pm an cdv ct a b c e
  obtain ⟨v, fv, od, nw, rfl, ⟨rfl, hi⟩, rfl, rfl, rfl⟩ := all4 ha
  obtain ⟨co, sc⟩ := ok
  have nd : d ≠ x.a := fun z => by rw [z, hi] at hd; cases hd
  have hi2 : (upd H d (.dK [])) x.a = some (.ins x.C x.dx []) := by rw [upd_ne (Ne.symm nd)]; exact hi
  refine pb_expr (eb_superK (j := 4) (kv := []) (φ := Hv x.fv) (supx sk_Renamed_init sd rfl T.z_super rfl (.inl rfl) DK.top) sc fi ((fna_kw (f_Kept_init T)).imp fun _ _ _ _ h => h) hr rfl hi2 mo_v (fun q hq => de_var (i := 1) rlEx rfl mo_v rfl rfl (.inl rfl)) rfl rfl (.inl rfl) upd_same) ⟨rfl, rfl, fun v1 H1 e1 ev => ?_⟩ rfl
  subst ev
  refine ⟨⟨x.a, x.C, x.dx, x.fv⟩, co, all2_cons ⟨rfl, e1 _ _ hi2⟩ (all2_cons rfl rfl), fun v2 H2 r2 ⟨_, b2⟩ => ?_⟩
  have b2 : H2 x.a = some (.ins x.C x.dx [("form_before", x.fv)]) := b2
  have r2 : RO x.a H1 H2 := r2
  refine bs_fld (C := x.C) (φ := Hv x.o) (de_var (i := 2) rlEx rfl mo_v rfl rfl (.inl rfl)) mo_v (de_var (i := 0) rlEx rfl mo_v rfl rfl (.inl rfl)) b2 co.cls co.nO (by simp) fun v3 H3 e3 ev => ?_
  subst ev
  refine bs_fld (C := x.C) (φ := Hv x.n) (de_var (i := 3) rlEx rfl mo_v rfl rfl (.inl rfl)) mo_v (de_var (i := 0) rlEx rfl mo_v rfl rfl (.inl rfl)) upd_same co.cls co.nN (by show 2 < 1000; omega) fun v4 H4 e4 ev => bs_nil ?_
  subst ev
  exact hQ _ _ (RO.tr (RO.of (Ex.new hd)) (RO.tr (RO.of e1) (RO.tr r2 (RO.tr (RO.of e3) (RO.tr RO.upd (RO.tr (RO.of e4) RO.upd)))))) ⟨rfl, upd_same⟩
structure RwX extends WiX where
  o : V
  n : V
abbrev spRw (K : Fg) (gW : Addr) : Sp := spT (fun x : RwX => RO x.a) (fun x => CvC K x.C ∧ SupC K x.C (He.ga K "Renamed") "__init__" gW ∧ SupC K x.C (He.ga K "With") "__init__" (kIni K)) (fun x => [fun v H => v = .ref x.a ∧ H x.a = some (.ins x.C x.dx []), Hv x.fv, Hv x.o, Hv x.n, Hv x.f, Hv x.k, Hv x.e])
  (fun x v H' => v = .non ∧ WiAt x.toWiX [("old_name", x.o), ("new_name", x.n)] H')
theorem all7 {φ1 φ2 φ3 φ4 φ5 φ6 φ7 : Pv} {vs : List V} {H : Hp} (h : All2 [φ1, φ2, φ3, φ4, φ5, φ6, φ7] vs H) : ∃ a b c d e f g, vs = [a, b, c, d, e, f, g] ∧ φ1 a H ∧ φ2 b H ∧ φ3 c H ∧ φ4 d H ∧ φ5 e H ∧ φ6 f H ∧ φ7 g H := by
  obtain ⟨a, r, rfl, h1, b, r2, rfl, h2, c, r3, rfl, h3, h4⟩ := h
  obtain ⟨d, r4, rfl, h4, e, r5, rfl, h5, f, r6, rfl, h6, g, r7, rfl, h7, rfl⟩ := h4
  exact ⟨a, b, c, d, e, f, g, rfl, h1, h2, h3, h4, h5, h6, h7⟩
theorem f_Renamed_init3 {f cc gW ccW : Addr} (T : Tx K mg) (DK : DfK K P f cc (He.ga K "Renamed") "__init__" "Renamed.__init__" s_Renamed_init) (DW : DfK K P gW ccW (He.ga K "With") "__init__" "With.__init__" s_With_init) (fi : PySem.W.fnIn K (kIni K) = true) (fw : PySem.W.fnIn K gW = true) :
    FnKw P w K mg base 3 f ["old", "new", "field", "kind", "expression"] (fun vs H Q E => vs.length = 7 ∧ spRw K gW vs H Q E) := by
  refine fnkw1 (ps := ["self", "form", "old", "new"]) (pd := "others") (n := 2) (bs := fun l => l.take 4) (rest := fun l => l.drop 4) (kr := ["field", "kind", "expression"]) DK sk_Renamed_init (fun kV doc pm an cdv ct us ws l1 l2 => ?_) (fun r => ?_) (fun r => ?_) (fun l h => ?_) (fun l h => ?_) (by decide) (by decide) (fun _ => rfl) fun cdv A0 outer s H x vs d Q hr sd ok ha hd hQ => ?_
  · obtain ⟨a, b, rfl⟩ := len2 l1
    obtain ⟨c1, c2, c3, c4, c5, rfl⟩ := len5 l2
    exact bk_Renamed3 cc kV doc pm an cdv ct a b c1 c2 c3 c4 c5
  · exact Vals.take 4 r
  · exact Vals.drop 4 r
  · rw [List.length_take, h]; rfl
  · rw [List.length_drop, h]; rfl
  obtain ⟨v, fv, od, nw, fd, kd, ex, rfl, ⟨rfl, hi⟩, rfl, rfl, rfl, rfl, rfl, rfl⟩ := all7 ha
  obtain ⟨co, sc, sc2⟩ := ok
  have nd : d ≠ x.a := fun z => by rw [z, hi] at hd; cases hd
  have hi2 : (upd H d (.dK (tkv [("field", x.f), ("kind", x.k), ("expression", x.e)]))) x.a = some (.ins x.C x.dx []) := by rw [upd_ne (Ne.symm nd)]; exact hi
  refine pb_expr (eb_superK (j := 4) (kv := [("field", x.f), ("kind", x.k), ("expression", x.e)]) (φ := Hv x.fv) (supx sk_Renamed_init sd rfl T.z_super rfl (.inl rfl) DK.top) sc fw (f_With_init T DW fi) hr rfl hi2 mo_v (fun q hq => de_var (i := 1) rlEx rfl mo_v rfl rfl (.inl rfl)) rfl rfl (.inl rfl) upd_same) ⟨rfl, rfl, fun v1 H1 e1 ev => ?_⟩ rfl
  subst ev
  refine ⟨rfl, x.toWiX, ⟨co, sc2⟩, all2_cons ⟨rfl, e1 _ _ hi2⟩ (all2_cons rfl (all2_cons rfl (all2_cons rfl (all2_cons rfl rfl)))), fun v2 H2 r2 ⟨_, t, b2, nt, ht⟩ => ?_⟩
  have r2 : RO x.a H1 H2 := r2
  refine bs_fld (C := x.C) (φ := Hv x.o) (de_var (i := 2) rlEx rfl mo_v rfl rfl (.inl rfl)) mo_v (de_var (i := 0) rlEx rfl mo_v rfl rfl (.inl rfl)) b2 co.cls co.nO (by show 3 < 1000; omega) fun v3 H3 e3 ev => ?_
  subst ev
  refine bs_fld (C := x.C) (φ := Hv x.n) (de_var (i := 3) rlEx rfl mo_v rfl rfl (.inl rfl)) mo_v (de_var (i := 0) rlEx rfl mo_v rfl rfl (.inl rfl)) upd_same co.cls co.nN (by show 4 < 1000; omega) fun v4 H4 e4 ev => bs_nil ?_
  subst ev
  refine hQ _ _ (RO.tr (RO.of (Ex.new hd)) (RO.tr (RO.of e1) (RO.tr r2 (RO.tr (RO.of e3) (RO.tr RO.upd (RO.tr (RO.of e4) RO.upd)))))) ⟨rfl, t, upd_same, nt, ?_⟩
  rw [upd_ne nt]
  refine e4 _ _ ?_
  rw [upd_ne nt]
  exact e3 _ _ ht
end
end Lf
set_option maxHeartbeats 4000000
/-! Cv3: kept_expression, Kept.entries; {**a, k: v} over data; a locked dict's statement. -/
namespace Lf
open PySem PySem.Spec L2
open PyProof.Rows hiding St wpAt wpAt_bind wpAt_mono
abbrev Ent := Kd × Ek
def dEnt (x : Ent) : PyData := .tuple [dK x.1, dE x.2]
theorem nol_ent (x : Ent) : nol (dEnt x) = true := by
  obtain ⟨k, e⟩ := x
  cases k <;> cases e <;> rfl
def keptX (f : Str) : Kd → Ek
  | .rng _ _ => .get f
  | .cls _ => .to f
def keptE (fm : Form) : AL Ent := fm.map fun p => (p.1, (p.2, keptX p.1 p.2))
section
variable {P : Program} {w : World} {K : Fg} {mg : Str → Option Value} {base : Heap}
abbrev spKx (K : Fg) : Sp := spT (fun _ => Ex) (fun _ : Str × Kd => True) (fun x => [Hd K (.str x.1), Hd K (dK x.2)]) (fun x => Hd K (dE (keptX x.1 x.2)))
theorem f_kept_expression (T : Tx K mg) : Fnc P w K mg base 1 "kept_expression" (spKx K) := by
  refine ⟨T.g_kept_expression, fna_of T.d_kept_expression sc_kept_expression bn_kept_expression (fun _ => rfl) fun cdv A0 outer s H E x vs Q hr _ ha hQ => ?_⟩
  obtain ⟨f, k⟩ := x
  obtain ⟨v, u, rfl, h1, h2⟩ := all2 ha
  have h1 : Dp K H v (.str f) := h1
  cases k with
  | rng lo hi =>
    have h2 : Dp K H u (.tuple [.int lo, .int hi]) := h2
    refine bs_ret (φ := Hd K (.tuple [.str "get", .tuple [.str f], .int 0])) (de_if (c := true) rlEx (dt_val rlEx (de_isi rlEx rfl T.z_isinstance (vd 1 h2) (vty rlEx T.z_tuple) (kit_Tup (.tuple [.int lo, .int hi])))) (fun _ => ?_) (fun z => by cases z)) rlEx hQ
    exact de_tup rlEx (dd_cons rlEx (de_str rlEx) (dd_cons rlEx (de_tup rlEx (dd_cons rlEx (vd 0 h1) (dd_nil rlEx))) (dd_cons rlEx (de_int rlEx) (dd_nil rlEx))))
  | cls c =>
    have h2 : Dp K H u (.str c) := h2
    refine bs_ret (φ := Hd K (.tuple [.str "to", .tuple [.str f]])) (de_if (c := false) rlEx (dt_val rlEx (de_isi rlEx rfl T.z_isinstance (vd 1 h2) (vty rlEx T.z_tuple) (kit_Tup (.str c)))) (fun z => by cases z) (fun _ => ?_)) rlEx hQ
    exact de_tup rlEx (dd_cons rlEx (de_str rlEx) (dd_cons rlEx (de_tup rlEx (dd_cons rlEx (vd 0 h1) (dd_nil rlEx))) (dd_nil rlEx)))
/-- an instance of C whose attributes are so -/
abbrev Need := List (Str × V) → Hp → Prop
def IsI (C : Addr) (N : Need) : Pv := fun v H => ∃ a dx fs, v = .ref a ∧ H a = some (.ins C dx fs) ∧ N fs H
def NMo (N : Need) : Prop := ∀ fs H H', Ex H H' → N fs H → N fs H'
theorem mo_i {C : Addr} {N : Need} (m : NMo N) : Mo Ex (IsI C N) := fun v H H' x ⟨a, dx, fs, e, h, n⟩ => ⟨a, dx, fs, e, x _ _ h, m _ _ _ x n⟩
def NK (K : Fg) (fm : Form) : Need := fun fs H => ∃ fv, fs.lookup ("form_before" : Str) = some fv ∧ Dp K H fv (dForm fm)
def NRn (o n : Str) : Need := fun fs _ => fs.lookup ("old_name" : Str) = some (.str o) ∧ fs.lookup ("new_name" : Str) = some (.str n)
def NWo (f : Str) : Need := fun fs _ => fs.lookup ("field_out" : Str) = some (.str f)
def NWi (K : Fg) (f : Str) (x : Ent) : Need := fun fs H => fs.lookup ("field_in" : Str) = some (.str f) ∧ ∃ ev, fs.lookup ("entry_in" : Str) = some ev ∧ Dp K H ev (dEnt x)
/-- entries of such an instance -/
def spEn (K : Fg) (C : Addr) (N : Need) (es : AL Ent) : Sp := fun vs H Q _ => ∃ v, vs = [v] ∧ IsI C N v H ∧ ∀ v' H', Ex H H' → DicN K H (es.map (kf dEnt)) v' H' → Q v' H'
abbrev spEnT (K : Fg) (C : Addr) (N : Need) (es : AL Ent) : Sp := spT (fun _ : Hp => Ex) (fun _ => True) (fun H0 => [fun v H => H = H0 ∧ IsI C N v H]) (fun H0 => DicN K H0 (es.map (kf dEnt)))
theorem en_of {C : Addr} {N : Need} {es : AL Ent} {vs : List V} {H : Hp} {Q : VK} {E : XK} (h : spEn K C N es vs H Q E) : spEnT K C N es vs H Q E := by
  obtain ⟨v, rfl, i, q⟩ := h
  exact ⟨H, trivial, ⟨v, [], rfl, ⟨rfl, i⟩, rfl⟩, q⟩
abbrev kEnt (K : Fg) : Addr := He.ma K (He.ga K "Kept") "entries"
theorem f_Kept_entries {C : Addr} {N : Need} {fm : Form} (T : Tx K mg) (co : CvC K C) (nd : (fm.map (·.1)).Nodup) (few : fm.length < 1000) (hN : ∀ fs H, N fs H → NK K fm fs H) : Fna P w K mg base 2 (kEnt K) (spEn K C N (keptE fm)) := by
  refine Fna.imp (sp := spEnT K C N (keptE fm)) (fna_of T.d_Kept_entries sc_Kept_entries bn_Kept_entries (fun _ => rfl) fun cdv A0 outer s H E H0 vs Q hr _ ha hQ => ?_) fun _ _ _ _ h => en_of h
  obtain ⟨v, rfl, rfl, a, dx, fs, rfl, hi, hn⟩ := all1 ha
  obtain ⟨fv, hl, hf⟩ := hN _ _ hn
  have big : 1000 ≤ sizeLine := by decide
  have hf : Dp K H fv (.tuple (fm.map dFld)) := hf
  refine bs_ret (φ := DicN K H ((fm.filter fun _ => true).map fun p : Str × Kd => ((Sum.inr p.1 : Key), dEnt (p.2, keptX p.1 p.2)))) (de_dcN (own := [("field", 1), ("kind", 2)]) (g := gTup K 2 (gCons (gName 1) (gCons (gName 2) gNil))) (bo := fun _ : Str × Kd => true) (ky := fun p : Str × Kd => Sum.inr p.1) (eo := fun p : Str × Kd => dEnt (p.2, keptX p.1 p.2)) rfl sc_Kept_entries.nd (blkOk_by (N := ["self", "field", "kind"]) (sc := defScope s_Kept_entries) (by decide +kernel))
      (src_tup (src := fm) (f := dFld) rlEx (de_imp (de_fld (C := C) (fs := fs) rlEx (de_var (i := 0) rlEx rfl (mo_ins rlEx) ⟨a, dx, rfl, hi⟩ rfl (.inl rfl)) co.cls co.nF hl) (fun v' H' e' ev => by rw [ev]; exact rlEx.dp e' hf) rlEx)) (by omega) (fun p _ => nol_ent _) ?_
      (fun _ _ _ _ _ => pg_tup (X := _) rfl (pgs_cons (pg_name (i := 1) sc_Kept_entries.nd rfl (.inl rfl)) (pgs_cons (pg_name (i := 2) sc_Kept_entries.nd rfl (.inl rfl)) pgs_nil))) gm_2
      fun p y H' _ _ hy => g2 hy fun v1 v2 p1 p2 => ⟨rfl, Ex.rfl' _, fun _ _ _ _ _ => dts_nil rlEx rfl, fun _ H3 e3 => ⟨fun _ _ _ _ _ => de_imp (φ := Hd K (.str p.1)) (vd 1 (rlEx.dp e3 p1)) (fun _ _ _ h => dp_str h) rlEx, fun H4 e4 _ _ _ _ _ => de_tup rlEx (dd_cons rlEx (vd 2 (rlEx.dp e4 p2)) (dd_cons rlEx (cE (f_kept_expression T) (p.1, p.2) hr trivial (ar2 (vd 1 (rlEx.dp e4 p1)) (vd 2 (rlEx.dp e4 p2)))) (dd_nil rlEx)))⟩⟩) rlEx fun v' H4 e4 q => hQ v' H4 e4 ?_
  · rw [List.filter_eq_self.mpr (fun _ _ => rfl)]
    have e : (fm.map fun p : Str × Kd => (Sum.inr p.1 : Key)) = (fm.map (·.1)).map Sum.inr := by rw [List.map_map]; rfl
    rw [e]
    exact List.Pairwise.map _ (fun a b h e => h (Sum.inr.inj e)) nd
  · rw [List.filter_eq_self.mpr (fun _ _ => rfl)] at q
    unfold keptE
    rw [List.map_map]
    exact q
end
end Lf
set_option maxHeartbeats 4000000
/-! Cv4: entries of the derived classes. -/
namespace Lf
open PySem PySem.Spec L2
open PyProof.Rows hiding St wpAt wpAt_bind wpAt_mono
section
variable {X : Cx} {R : Rel} {σ : St} {H : Hp} {D : Ends} {st : Stmt} {rest : List Stmt} {pos p spos py : Pos} {φ ψ : Pv}
/-- a statement run while the dict at d stands locked -/
theorem bs_lock {d : Addr} {kvs : List (Key × V)} (hd : H d = some (.dK kvs)) (h : ∀ od, ∃ t, PS X st t ∧ t { nx := fun σ' H' => H' d = some (.frz od (.dK kvs)) ∧ PSs X rest (tAt σ' (upd H' d (.dK kvs)) D), rt := fun _ _ => False } σ (upd H d (.frz od (.dK kvs)))) : PSs X (st :: rest) (tAt σ H D) := by
  refine ⟨fun pins s σ0 H0 D0 I q => ?_⟩
  obtain ⟨rfl, rfl, rfl⟩ := q
  obtain ⟨od, I1⟩ := I.lock hd trivial
  obtain ⟨t, ht, hq⟩ := h od
  refine wpAny_execs_cons (thn (ht.run pins s _ _ _ I1 hq) fun f s1 q => ?_)
  cases f with
  | next =>
    obtain ⟨σ', H', I', e2, q⟩ := q
    exact q.run pins s1 σ' _ _ (I'.unlock e2 (I.nofrz hd trivial)) ⟨rfl, rfl, rfl⟩
  | ret v =>
    obtain ⟨_, _, _, _, _, q⟩ := q
    exact q.elim
  | brk =>
    obtain ⟨_, _, _, q⟩ := q
    exact q.elim
  | cont =>
    obtain ⟨_, _, _, q⟩ := q
    exact q.elim
theorem ex_unlock {d : Addr} {kvs : List (Key × V)} {od : Obj} {H' : Hp} (hd : H d = some (.dK kvs)) (e : Ex (upd H d (.frz od (.dK kvs))) H') : Ex H (upd H' d (.dK kvs)) := fun b o hb => by
  by_cases z : b = d
  · rw [z] at hb ⊢
    rw [upd_same, ← hb, hd]
  · rw [upd_ne z]
    exact e _ _ (by rw [upd_ne z]; exact hb)
theorem dicR_unlock {K : Fg} {d : Addr} {kvs : List (Key × V)} {od : Obj} {H' : Hp} {l : List (Key × V)} {m : DL} (z : H' d = some (.frz od (.dK kvs))) (h : DicR K H' l m) : DicR K (upd H' d (.dK kvs)) l m :=
  Paired.mapP h fun p q w => ⟨w.1, dp_map (fun c xs r => rd_unlock z (fun q => by cases q) (fun q => by cases q) r) (fun c xs r => rd_unlock z (fun q => by cases q) (fun q => by cases q) r) w.2⟩
theorem dicN_unlock {K : Fg} {d : Addr} {kvs : List (Key × V)} {od : Obj} {H' : Hp} {m : DL} {v : V} (hd : H d = some (.dK kvs)) (e : Ex (upd H d (.frz od (.dK kvs))) H') (h : DicN K (upd H d (.frz od (.dK kvs))) m v H') : DicN K H m v (upd H' d (.dK kvs)) := by
  obtain ⟨a, l, ev, n, ha, hr⟩ := h
  have ne : a ≠ d := fun z => by rw [z, upd_same] at n; cases n
  rw [upd_ne ne] at n
  exact ⟨a, l, ev, n, by rw [upd_ne ne]; exact ha, dicR_unlock (e _ _ upd_same) hr⟩
/-- y = {k: v for .. in d.items() ..}, y a local, d the dict at a place -/
theorem bs_setDcL {α : Type} {src : List α} {ι : α → Pv} {bo : α → Bool} {ky : α → Key} {eo : α → PyData} {kx vx tg iter : Expr} {ifs : List Expr} {scope : Scope} {own : List (Str × Nat)} {g : TG} {i : Nat} {y : Str} {d : Addr} {kvs : List (Key × V)} (hc : X.calm = true) (hN : X.N.Nodup) (hy : X.N[i]? = some y) (hl : X.env.scope.names.lookup y = some .local)
    (sw : swapsWith (.DictComp kx vx [⟨tg, iter, ifs, 0⟩] scope pos) (some (.Name y py)) spos.line X.env = pure true) (ok : BlkOk X.N X.env.scope scope own) (hd : H d = some (.dK kvs))
    (S : ∀ od, Src X Ex σ (upd H d (.frz od (.dK kvs))) tg iter src ι) (hz : src.length < sizeLine) (hn : ∀ s ∈ src, nol (eo s) = true) (nd : ((src.filter bo).map ky).Nodup) (hg : Blk X scope fun Y => PG Y tg g) (gm : GMo g)
    (hs : ∀ od s x H', s ∈ src → Ex (upd H d (.frz od (.dK kvs))) H' → ι s x H' → g x (wipe σ (own.map (·.2))) H' fun σ2 H2 => wipe σ2 (own.map (·.2)) = wipe σ (own.map (·.2)) ∧ Ex H' H2 ∧ (Blk X scope fun Y => PTs Y ifs (tT Ex σ2 H2 (bo s))) ∧
      (bo s = true → ∀ H3, Ex H2 H3 → (Blk X scope fun Y => PE Y kx (tG Ex σ2 H3 (Hv (kV (ky s))))) ∧ (∀ H3, Ex H2 H3 → Blk X scope fun Y => PE Y vx (tG Ex σ2 H3 (Hd X.K (eo s))))))
    (k : ∀ v H', Ex H H' → DicN X.K H ((src.filter bo).map fun s => (ky s, eo s)) v H' → PSs X rest (tAt (σ.set i (some v)) H' D)) (hf : ∀ x, foldedSetIterable iter X.env x = pure x := by intro _; rfl) :
    PSs X (.Assign [.Name y py] (.DictComp kx vx [⟨tg, iter, ifs, 0⟩] scope pos) spos :: rest) (tAt σ H D) := by
  refine bs_lock hd fun od => ?_
  obtain ⟨wi, hi, q⟩ := (S od).ex
  exact ⟨_, ps_setDc (i := i) hc hN hy hl sw hi ok hg PTs.selfB PE.selfB PE.selfB hf, dc_go q hz hn nd (hs od) gm (Ex.rfl' _) fun v H2 h2 z => ⟨h2 _ _ upd_same, k v _ (ex_unlock hd h2) (dicN_unlock hd h2 z)⟩⟩
/-- {**e1, k: v}, e1 a dict of its own: nols -/
theorem ec_dispD {c : Code} {e1 ek ev : Expr} {t1 : TE} {es : DL} {key : Str} {d : PyData} (h1 : PEC X c e1 t1) (hk : ∀ H1, Ex H H1 → PE X ek (tG Ex σ H1 (Hd X.K (.str key)))) (hv : ∀ H1, Ex H H1 → PE X ev (tG Ex σ H1 (Hd X.K d))) (nl : ∀ q ∈ es, nol q.2 = true) (nld : nol d = true) (hz : es.length < 1000)
    (q1 : ∀ d0, H d0 = none → ∀ Q : VK, (∀ v H', Ex (upd H d0 (.dK [])) H' → (∃ a kvs, v = .ref a ∧ a ≠ d0 ∧ H' a = some (.dK kvs) ∧ DicR X.K H' kvs es) → Q v H') → t1 σ (upd H d0 (.dK [])) Q) : PEC X c (.Dict [none, some ek] [e1, ev] pos) (tE σ H (DicN X.K H (putA es (.inr key) d))) := by
  have big : 1000 ≤ sizeLine := by decide
  have hk' : PE X ek (fun σ' H' Q => ∃ H1 : {H1 : Hp // Ex H H1}, tG Ex σ H1.1 (Hd X.K (.str key)) σ' H' Q) := PE.any fun H1 => hk H1.1 H1.2
  have hv' : PE X ev (fun σ' H' Q => ∃ H1 : {H1 : Hp // Ex H H1}, tG Ex σ H1.1 (Hd X.K d) σ' H' Q) := PE.any fun H1 => hv H1.1 H1.2
  refine ⟨fun pins s σ' H' Q I ⟨e2, e3, kk⟩ => ?_⟩
  subst e2 e3
  refine (ec_disp h1 hk' hv').run pins s σ' H' Q I fun d0 n0 => q1 d0 n0 _ fun v H2 x2 ⟨a, kvs, ea, ne, ha, dr⟩ => ?_
  have hd2 := x2 _ _ upd_same
  refine ⟨hd2, a, kvs, ea, ne, ha, by rw [dicR_length dr]; omega, fun z hzn => ?_⟩
  have x02 : Ex H' (upd H2 d0 (.dK kvs)) := Ex.mut ((Ex.new n0).tr x2) n0
  have x0z : Ex H' (upd (upd H2 d0 (.dK kvs)) z (.dK [])) := x02.tr (Ex.new hzn)
  have nz : z ≠ d0 := fun q => by rw [q, upd_same] at hzn; cases hzn
  refine ⟨⟨_, x0z⟩, rfl, Ex.rfl' _, fun y H3 x3 py => ⟨⟨H3, x0z.tr x3⟩, rfl, Ex.rfl' _, fun u H4 x4 pu => ?_⟩⟩
  have x34 := x3.tr x4
  have g1 : H4 z = some (.dK []) := x34 _ _ upd_same
  have g2 : H4 d0 = some (.dK kvs) := x34 _ _ (by rw [upd_ne (Ne.symm nz)]; exact upd_same)
  refine ⟨g1, g2, .inr key, dp_str py, ?_⟩
  have dr4 : DicR X.K H4 kvs es := by
    have a1 : DicR X.K (upd H2 d0 (.dK kvs)) kvs es := dicR_upd (no_tup hd2 (fun _ q => by cases q) fun _ _ q => by cases q) dr nl
    have hd3 : (upd H2 d0 (.dK kvs)) z = none := hzn
    exact (a1.mono rlEx (Ex.new hd3)).mono rlEx x34
  have g2' : (upd H4 z (.dK [(.inr key, u)])) d0 = some (.dK kvs) := by rw [upd_ne (Ne.symm nz)]; exact g2
  have dp1 : DicR X.K (upd H4 z (.dK [(.inr key, u)])) kvs es := dicR_upd (no_tup g1 (fun _ q => by cases q) fun _ _ q => by cases q) dr4 nl
  have du1 : Dp X.K (upd H4 z (.dK [(.inr key, u)])) u d := dp_nol (tups_upd (no_tup g1 (fun _ q => by cases q) fun _ _ q => by cases q)) nld pu
  have pr := dicR_put (k := .inr key) dp1 du1
  have pn : ∀ q ∈ putA es (.inr key) d, nol q.2 = true := fun q hq => by
    unfold putA at hq
    split at hq
    · obtain ⟨r, m, rfl⟩ := List.mem_map.mp hq
      split
      · exact nld
      · exact nl r m
    · rcases List.mem_append.mp hq with m | m
      · exact nl q m
      · rw [List.mem_singleton.mp m]; exact nld
  have pr2 := dicR_upd (o := .dK (putK kvs (.inr key) u)) (no_tup g2' (fun _ q => by cases q) fun _ _ q => by cases q) pr pn
  refine kk _ _ ?_ ⟨d0, _, rfl, n0, upd_same, pr2⟩
  have nz0 : H' z = none := by
    have := hzn
    rw [upd_ne nz] at this
    exact Ex.back ((Ex.new n0).tr x2) this
  exact Ex.mut (Ex.mut (x0z.tr x34) nz0) n0
end
end Lf
set_option maxHeartbeats 4000000
/-! Cv5: entries of With, Without, Renamed. -/
namespace Lf
open PySem PySem.Spec L2
open PyProof.Rows hiding St wpAt wpAt_bind wpAt_mono
theorem sk_With_entries : ScK ["self"] ["self"] (defScope s_With_entries) := ⟨rfl, rfl, rfl, by decide +kernel, rfl, by decide +kernel, by decide +kernel, by decide +kernel, by decide +kernel, by decide +kernel⟩
theorem sk_Without_entries : ScK ["self", "known", "field", "entry"] ["self"] (defScope s_Without_entries) := ⟨rfl, rfl, rfl, by decide +kernel, rfl, by decide +kernel, by decide +kernel, by decide +kernel, by decide +kernel, by decide +kernel⟩
theorem sk_Renamed_entries : ScK ["self", "found", "others", "field", "entry"] ["self"] (defScope s_Renamed_entries) := ⟨rfl, rfl, rfl, by decide +kernel, rfl, by decide +kernel, by decide +kernel, by decide +kernel, by decide +kernel, by decide +kernel⟩
def wiE (f : Str) (x : Ent) (es : AL Ent) : AL Ent := putS es f x
def woE (f : Str) (es : AL Ent) : AL Ent := es.filter fun p => !decide (p.1 = f)
def renE (o n : Str) (es : AL Ent) : AL Ent := match fnd o es with
  | none => es
  | some x => putS (es.filter fun p => !(decide (p.1 = o) || decide (p.1 = n))) n x
theorem src_map {X : Cx} {R : Rel} {σ : St} {H : Hp} {tg it : Expr} {α β : Type} {l : List α} {g : α → β} {ι : β → Pv} (S : Src X R σ H tg it (l.map g) ι) : Src X R σ H tg it l (fun s => ι (g s)) := by
  obtain ⟨wi, hi, q⟩ := S.ex
  refine ⟨wi, hi, fun H1 h1 Rr k => q H1 h1 Rr fun J H2 G Y h2 W g2 gm it => k J H2 G Y h2 (by rw [List.length_map] at W; exact W) g2 gm fun i H3 x H4 h3 gg y => ?_⟩
  obtain ⟨e, s, hs, is⟩ := it i H3 x H4 h3 gg y
  obtain ⟨t, ht, rfl⟩ := map_get hs
  exact ⟨e, t, ht, is⟩
theorem bs_retE {X : Cx} {σ : St} {H : Hp} {D : Ends} {rest : List Stmt} {e : Expr} {pos : Pos} {φ : Pv} (h : PE X e (tE σ H φ)) (k : ∀ v H', Ex H H' → φ v H' → D.rt v H') : PSs X (.Return (some e) pos :: rest) (tAt σ H D) :=
  bs_seq (ps_ret h) ⟨rfl, rfl, k⟩
section
variable {P : Program} {w : World} {K : Fg} {mg : Str → Option Value} {base : Heap} {C g f cc : Addr} {N : Need} {es : AL Ent} {k : Nat}
theorem nol_kf (es : AL Ent) : ∀ q ∈ es.map (kf dEnt), nol q.2 = true := fun q hq => by
  obtain ⟨p, _, rfl⟩ := List.mem_map.mp hq
  exact nol_ent p.2
theorem ins_of {a dx : Addr} {fs : List (Str × V)} {H H' : Hp} (hi : H a = some (.ins C dx fs)) (e : Ex H H') : IsIns C fs (.ref a) H' := ⟨a, dx, rfl, e _ _ hi⟩
theorem f_With_entries {fl : Str} {x : Ent} (T : Tx K mg) (DK : DfK K P f cc (He.ga K "With") "entries" "With.entries" s_With_entries) (co : CvC K C) (SC : SupC K C (He.ga K "With") "entries" g) (fi : PySem.W.fnIn K g = true) (F : FnKw P w K mg base k g [] (spEn K C N es)) (mN : NMo N) (hN : ∀ fs H, N fs H → NWi K fl x fs H) (few : es.length < 1000) :
    FnKw P w K mg base (k + 1) f [] (spEn K C N (wiE fl x es)) := by
  refine FnKw.imp (sp := spEnT K C N (wiE fl x es)) (fnkw0 DK sk_With_entries (fun _ _ _ _ _ _ us hl => by obtain ⟨a, rfl⟩ := len1 hl; rfl) (fun _ => rfl) fun cdv A0 outer s H H0 vs Q hr sd _ ha hQ => ?_) fun _ _ _ _ h => en_of h
  obtain ⟨v, rfl, rfl, a, dx, fs, rfl, hi, hn⟩ := all1 ha
  obtain ⟨l1, ev, l2, de⟩ := hN _ _ hn
  refine pb_ret (peb_c (ec_dispD (es := es.map (kf dEnt)) (key := fl) (d := dEnt x) (pec_b (eb_super0 (supx sk_With_entries sd rfl T.z_super rfl (.inl rfl) DK.top) SC fi F hr)) (fun H1 e1 => de_imp (de_fld (C := C) (fs := fs) rlEx (de_var (i := 0) rlEx rfl (mo_ins rlEx) (ins_of hi e1) rfl (.inl rfl)) co.cls co.nI l1) (fun v' H' e' q => by rw [q]; exact .str fl) rlEx)
    (fun H1 e1 => de_imp (de_fld (C := C) (fs := fs) rlEx (de_var (i := 0) rlEx rfl (mo_ins rlEx) (ins_of hi e1) rfl (.inl rfl)) co.cls co.nE l2) (fun v' H' e' q => by rw [q]; exact rlEx.dp (e1.tr e') de) rlEx) (nol_kf es) (nol_ent x) (by rw [List.length_map]; exact few) fun d0 n0 Q' kq => ?_)) ⟨rfl, rfl, fun v' H' e' q => hQ v' H' e' ?_⟩
  · refine ⟨a, dx, fs, rfl, Ex.new n0 _ _ hi, fun q hq => ⟨.ref a, rfl, ⟨a, dx, fs, rfl, Ex.new hq _ _ (Ex.new n0 _ _ hi), mN _ _ _ ((Ex.new n0).tr (Ex.new hq)) hn⟩, fun v' H' e' ⟨a', kvs, ea, na, ha', dr⟩ => kq v' H' ((Ex.new hq).tr e') ⟨a', kvs, ea, fun z => ?_, ha', dr⟩⟩⟩
    have z2 : (upd (upd H d0 (.dK [])) q (.met g a)) d0 = some (.dK []) := Ex.new hq _ _ upd_same
    rw [z] at na
    rw [na] at z2
    cases z2
  · rw [putA_kf] at q
    exact q
theorem nd_keys {α : Type} {es : AL α} {b : Str × α → Bool} (nd : (es.map (·.1)).Nodup) : ((es.filter b).map fun p => (Sum.inr p.1 : Key)).Nodup := by
  have e : ((es.filter b).map fun p => (Sum.inr p.1 : Key)) = ((es.filter b).map (·.1)).map Sum.inr := by rw [List.map_map]; rfl
  rw [e]
  exact List.Pairwise.map _ (fun a b h e => h (Sum.inr.inj e)) (nd.sublist (List.Sublist.map _ List.filter_sublist))
/-- d.items() of entries -/
theorem src_ent {X : Cx} {σ : St} {H : Hp} {d : Addr} {od : Obj} {kvs : List (Key × V)} {kk : Nat} {e : Expr} {elts : List Expr} {apos tpos pos : Pos} {es : AL Ent} (r : PE X e (tG Ex σ H (Hv (.ref d)))) (hd : H d = some (.frz od (.dK kvs))) (dk : DicR X.K H kvs (es.map (kf dEnt)))
    (hbase : attributeBase e "items" X.env (eval e X.env) = eval e X.env := by rfl) (hline : (apos.endLine == pos.line) = true := by rfl) : Src X Ex σ H (.Tuple elts kk tpos) (.Call (.Attribute e "items" apos) [] [] pos) es (fun p => Hd X.K (.tuple [.str p.1, dEnt p.2])) :=
  src_map (g := kf dEnt) (src_items r hd dk keyD keyD_ok hbase hline)
theorem f_Without_entries {fl : Str} (T : Tx K mg) (DK : DfK K P f cc (He.ga K "Without") "entries" "Without.entries" s_Without_entries) (co : CvC K C) (SC : SupC K C (He.ga K "Without") "entries" g) (fi : PySem.W.fnIn K g = true) (F : FnKw P w K mg base k g [] (spEn K C N es)) (mN : NMo N) (hN : ∀ fs H, N fs H → NWo fl fs H) (few : es.length < 1000) (nd : (es.map (·.1)).Nodup) :
    FnKw P w K mg base (k + 1) f [] (spEn K C N (woE fl es)) := by
  refine FnKw.imp (sp := spEnT K C N (woE fl es)) (fnkw0 DK sk_Without_entries (fun _ _ _ _ _ _ us hl => by obtain ⟨a, rfl⟩ := len1 hl; rfl) (fun _ => rfl) fun cdv A0 outer s H H0 vs Q hr sd _ ha hQ => ?_) fun _ _ _ _ h => en_of h
  obtain ⟨v, rfl, rfl, a, dx, fs, rfl, hi, hn⟩ := all1 ha
  have l1 := hN _ _ hn
  have big : 1000 ≤ sizeLine := by decide
  refine pb_set (i := 1) sk_Without_entries.nd rfl (.inl rfl) (eb_super0 (supx sk_Without_entries sd rfl T.z_super rfl (by first | exact .inl rfl | exact .inr rfl) DK.top) SC fi F hr) ⟨a, dx, fs, rfl, hi, fun q hq => ⟨.ref a, rfl, ⟨a, dx, fs, rfl, Ex.new hq _ _ hi, mN _ _ _ (Ex.new hq) hn⟩, fun v1 H1 e1 hv => ?_⟩⟩
  obtain ⟨d, kvs, rfl, nn, hd, dr⟩ := hv
  have e01 : Ex H H1 := (Ex.new hq).tr e1
  refine bs_ret (φ := DicN K H1 ((es.filter fun p => !decide (p.1 = fl)).map fun p => ((Sum.inr p.1 : Key), dEnt p.2))) (de_lock (d := d) (kvs := kvs) (φ := fun v' H' => ∃ od, DicN K (upd H1 d (.frz od (.dK kvs))) ((es.filter fun p => !decide (p.1 = fl)).map fun p => ((Sum.inr p.1 : Key), dEnt p.2)) v' H' ∧ Ex (upd H1 d (.frz od (.dK kvs))) H') hd (fun od => ?_) fun v' H' od hz ⟨od', h1, h2⟩ => dicN_unlock hd h2 h1) rlEx fun v' H4 e4 q => hQ v' H4 (e01.tr e4) ?_
  · have dr1 : DicR K (upd H1 d (.frz od (.dK kvs))) kvs (es.map (kf dEnt)) := dicR_upd (no_tup hd (fun _ q => by cases q) fun _ _ q => by cases q) dr (nol_kf es)
    have nad : a ≠ d := fun z => by have := e01 _ _ hi; rw [z, hd] at this; cases this
    have hi1 : (upd H1 d (.frz od (.dK kvs))) a = some (.ins C dx fs) := by rw [upd_ne nad]; exact e01 _ _ hi
    refine de_imp (de_dcN (own := [("field", 2), ("entry", 3)]) (g := gTup K 2 (gCons (gName 2) (gCons (gName 3) gNil))) (bo := fun p : Str × Ent => !decide (p.1 = fl)) (ky := fun p : Str × Ent => Sum.inr p.1) (eo := fun p : Str × Ent => dEnt p.2) rfl sk_Without_entries.nd (blkOk_by (N := ["self", "known", "field", "entry"]) (sc := defScope s_Without_entries) (by decide +kernel))
      (src_ent (es := es) (d := d) (od := od) (kvs := kvs) (vv 1) upd_same dr1) (by omega) (fun p _ => nol_ent _) (nd_keys nd)
      (fun _ _ _ _ _ => pg_tup (X := _) rfl (pgs_cons (pg_name (i := 2) sk_Without_entries.nd rfl (.inl rfl)) (pgs_cons (pg_name (i := 3) sk_Without_entries.nd rfl (.inl rfl)) pgs_nil))) gm_2
      fun p y H' hp e' hy => g2 hy fun v1 v2 p1 p2 => ⟨rfl, Ex.rfl' _, fun _ _ _ _ _ => dts_one (dt_neS (x := p.1) (y := fl) rlEx (vd 2 p1) (de_imp (φ := Hv (.str fl)) (de_fld (C := C) (fs := fs) rlEx (de_var (i := 0) rlEx rfl (mo_ins rlEx) (ins_of hi1 e') rfl (by first | exact .inl rfl | exact .inr (.inl rfl) | exact .inr (.inr rfl))) co.cls co.nX l1) (fun _ _ _ q => by rw [q]; exact .str fl) rlEx)), fun _ H3 e3 => ⟨fun _ _ _ _ _ => de_imp (φ := Hd K (.str p.1)) (vd 2 (rlEx.dp e3 p1)) (fun _ _ _ h => dp_str h) rlEx, fun H4 e4 _ _ _ _ _ => vd 3 (rlEx.dp e4 p2)⟩⟩) (fun v' H' e' h => ⟨od, h, e'⟩) rlEx
  · obtain ⟨d2, kvs2, ev2, n2, h2, r2⟩ := q
    exact ⟨d2, kvs2, ev2, Ex.back e01 n2, h2, r2⟩
end
end Lf
set_option maxHeartbeats 4000000
/-! Cv6: Renamed.entries. -/
namespace Lf
open PySem PySem.Spec L2
open PyProof.Rows hiding St wpAt wpAt_bind wpAt_mono
theorem dt_ninD {X : Cx} {σ : St} {H : Hp} {a b : Expr} {pos : Pos} {kds : DL} {j : Nat} {x : Str} (hr : Room j X.A) (ha : PE X a (tG Ex σ H (Hd X.K (.str x)))) (hb : PE X b (tG Ex σ H (IsDic X.K kds))) (hm : behindInMarks .NotIn b = false := by rfl) : PT X (.Compare a [.NotIn] [b] pos) (tT Ex σ H (!(fndK (Sum.inr x) kds).isSome)) :=
  PT.imp (pt_cmp (pc_dnotin (room1 hr) ha hb) hm) fun _ _ _ ⟨e1, h1, k⟩ => ⟨e1, h1, fun y H2 h2 q => ⟨e1, Ex.tr h1 h2, fun v H3 h3 ⟨l, kvs, ev, hl, hd⟩ => ⟨l, _, ev, dget_of (k := Sum.inr x) (K := X.K) hl (dp_str q), by
    rw [dicR_some hd]
    exact ⟨_, rfl, k H3 (Ex.tr h2 h3)⟩⟩⟩⟩
/-- a text not in a tuple of texts -/
theorem dt_notInT {X : Cx} {R : Rel} {σ : St} {H : Hp} {a b : Expr} {pos : Pos} {x : Str} {ws : List Str} (r : Rl R) (ha : PE X a (tG R σ H (Hd X.K (.str x)))) (hb : PE X b (tG R σ H (Hd X.K (.tuple (ws.map PyData.str))))) (hm : behindInMarks .NotIn b = false := by rfl) : PT X (.Compare a [.NotIn] [b] pos) (tT R σ H (!decide (x ∈ ws))) :=
  dt_cmp r op_notIn_seq ha (mo_d r) hb hm fun u v H2 _ p q Q k => by
    cases dp_str p
    obtain ⟨l, xs, rfl, hs, hd⟩ := dp_tup q
    have e := dp_strs_eq hd
    subst e
    exact ⟨l, _, rfl, .inr hs, rfl, flat_strs ws, by rw [inV_strs]; exact k H2 (r.refl _)⟩
section
variable {P : Program} {w : World} {K : Fg} {mg : Str → Option Value} {base : Heap} {C g f cc : Addr} {N : Need} {es : AL Ent} {k : Nat}
theorem f_Renamed_entries {o n : Str} (T : Tx K mg) (DK : DfK K P f cc (He.ga K "Renamed") "entries" "Renamed.entries" s_Renamed_entries) (co : CvC K C) (SC : SupC K C (He.ga K "Renamed") "entries" g) (fi : PySem.W.fnIn K g = true) (F : FnKw P w K mg base k g [] (spEn K C N es)) (mN : NMo N) (hN : ∀ fs H, N fs H → NRn o n fs H) (few : es.length < 1000) (nd : (es.map (·.1)).Nodup) :
    FnKw P w K mg base (k + 1) f [] (spEn K C N (renE o n es)) := by
  refine FnKw.imp (sp := spEnT K C N (renE o n es)) (fnkw0 DK sk_Renamed_entries (fun _ _ _ _ _ _ us hl => by obtain ⟨a, rfl⟩ := len1 hl; rfl) (fun _ => rfl) fun cdv A0 outer s H H0 vs Q hr sd _ ha hQ => ?_) fun _ _ _ _ h => en_of h
  obtain ⟨v, rfl, rfl, a, dx, fs, rfl, hi, hn⟩ := all1 ha
  obtain ⟨l1, l2⟩ := hN _ _ hn
  have big : 1000 ≤ sizeLine := by decide
  refine pb_set (i := 1) sk_Renamed_entries.nd rfl (.inl rfl) (eb_super0 (supx sk_Renamed_entries sd rfl T.z_super rfl (by first | exact .inl rfl | exact .inr rfl) DK.top) SC fi F hr) ⟨a, dx, fs, rfl, hi, fun q hq => ⟨.ref a, rfl, ⟨a, dx, fs, rfl, Ex.new hq _ _ hi, mN _ _ _ (Ex.new hq) hn⟩, fun v1 H1 e1 hv => ?_⟩⟩
  obtain ⟨d, kvs, rfl, nn, hd, dr⟩ := hv
  have e01 : Ex H H1 := (Ex.new hq).tr e1
  have hi1 := e01 _ _ hi
  have nH : H d = none := Ex.back (Ex.new hq) nn
  have idic : IsDic K (es.map (kf dEnt)) (.ref d) H1 := ⟨d, kvs, rfl, hd, dr⟩
  have fk : fndK (Sum.inr o) (es.map (kf dEnt)) = (fnd o es).map dEnt := fndK_of
  cases hf : fnd o es with
  | none =>
    have er : renE o n es = es := by unfold renE; rw [hf]
    refine bs_when (t := true) rlEx (dt_is (dt_ninD hr (de_imp (φ := Hv (.str o)) (de_fld (C := C) (fs := fs) rlEx (de_var (i := 0) rlEx rfl (mo_ins rlEx) ⟨a, dx, rfl, hi1⟩ rfl (by first | exact .inl rfl | exact .inr (.inl rfl) | exact .inr (.inr rfl))) co.cls co.nO l1) (fun _ _ _ q => by rw [q]; exact .str o) rlEx) (vdc 1 idic (Ex.rfl' _))) ?_) (fun _ H2 e2 => ?_) (fun z => by cases z)
    · rw [fk, hf]; rfl
    · refine bs_ret (φ := DicN K H (es.map (kf dEnt))) (de_var (i := 1) rlEx rfl mo_dicN (mo_dicN _ _ _ e2 ⟨d, kvs, rfl, nH, hd, dr⟩) rfl (by first | exact .inl rfl | exact .inr (.inl rfl) | exact .inr (.inr rfl))) rlEx fun v' H4 e4 q => hQ v' H4 (e01.tr (e2.tr e4)) (by rw [er]; exact q)
  | some x =>
    have er : renE o n es = putS (es.filter fun p => !(decide (p.1 = o) || decide (p.1 = n))) n x := by unfold renE; rw [hf]
    refine bs_when (t := false) rlEx (dt_is (dt_ninD hr (de_imp (φ := Hv (.str o)) (de_fld (C := C) (fs := fs) rlEx (de_var (i := 0) rlEx rfl (mo_ins rlEx) ⟨a, dx, rfl, hi1⟩ rfl (by first | exact .inl rfl | exact .inr (.inl rfl) | exact .inr (.inr rfl))) co.cls co.nO l1) (fun _ _ _ q => by rw [q]; exact .str o) rlEx) (vdc 1 idic (Ex.rfl' _))) ?_) (fun z => by cases z) fun _ H2 e2 => ?_
    · rw [fk, hf]; rfl
    have hd2 := e2 _ _ hd
    have hi2 := e2 _ _ hi1
    have dr2 := dr.mono rlEx e2
    have nad : a ≠ d := fun z => by rw [z, hd] at hi1; cases hi1
    refine bs_setDcL (i := 2) (d := d) (kvs := kvs) (own := [("field", 3), ("entry", 4)]) (g := gTup K 2 (gCons (gName 3) (gCons (gName 4) gNil))) (bo := fun p : Str × Ent => !(decide (p.1 = o) || decide (p.1 = n))) (ky := fun p : Str × Ent => Sum.inr p.1) (eo := fun p : Str × Ent => dEnt p.2) rfl sk_Renamed_entries.nd rfl rfl (sw_dc rfl rfl rfl (by decide +kernel)) (blkOk_by (N := ["self", "found", "others", "field", "entry"]) (sc := defScope s_Renamed_entries) (by decide +kernel)) hd2
      (fun od => src_ent (es := es) (d := d) (od := od) (kvs := kvs) (vv 1) upd_same (dicR_upd (no_tup hd2 (fun _ q => by cases q) fun _ _ q => by cases q) dr2 (nol_kf es))) (by omega) (fun p _ => nol_ent _) (nd_keys nd)
      (fun _ _ _ _ _ => pg_tup (X := _) rfl (pgs_cons (pg_name (i := 3) sk_Renamed_entries.nd rfl (.inl rfl)) (pgs_cons (pg_name (i := 4) sk_Renamed_entries.nd rfl (.inl rfl)) pgs_nil))) gm_2
      (fun od p y H' hp e' hy => g2 hy fun v1 v2 p1 p2 => ⟨rfl, Ex.rfl' _, fun _ _ _ _ _ => dts_one (dt_is (dt_notInT (x := p.1) (ws := [o, n]) rlEx (vd 3 p1) (de_tup rlEx (dd_cons rlEx (de_imp (φ := Hv (.str o)) (de_fld (C := C) (fs := fs) rlEx (de_var (i := 0) rlEx rfl (mo_ins rlEx) ⟨a, dx, rfl, e' _ _ (by rw [upd_ne nad]; exact hi2)⟩ rfl (by first | exact .inl rfl | exact .inr (.inl rfl) | exact .inr (.inr rfl))) co.cls co.nO l1) (fun _ _ _ q => by rw [q]; exact .str o) rlEx)
        (dd_cons rlEx (de_imp (φ := Hv (.str n)) (de_fld (C := C) (fs := fs) rlEx (de_var (i := 0) rlEx rfl (mo_ins rlEx) ⟨a, dx, rfl, e' _ _ (by rw [upd_ne nad]; exact hi2)⟩ rfl (by first | exact .inl rfl | exact .inr (.inl rfl) | exact .inr (.inr rfl))) co.cls co.nN l2) (fun _ _ _ q => by rw [q]; exact .str n) rlEx) (dd_nil rlEx))))) (by simp)), fun _ H3 e3 => ⟨fun _ _ _ _ _ => de_imp (φ := Hd K (.str p.1)) (vd 3 (rlEx.dp e3 p1)) (fun _ _ _ h => dp_str h) rlEx, fun H4 e4 _ _ _ _ _ => vd 4 (rlEx.dp e4 p2)⟩⟩) fun ov H3 e3 ho => ?_
    obtain ⟨d2, kv2, rfl, nn2, hd3, dr3⟩ := ho
    have e23 := e2.tr e3
    have dr3 : DicR K H3 kv2 ((es.filter fun p => !(decide (p.1 = o) || decide (p.1 = n))).map (kf dEnt)) := dr3
    refine bs_retE (φ := DicN K H3 (putA ((es.filter fun p => !(decide (p.1 = o) || decide (p.1 = n))).map (kf dEnt)) (.inr n) (dEnt x))) (pe_of_c fun c => ec_dispD (es := (es.filter fun p => !(decide (p.1 = o) || decide (p.1 = n))).map (kf dEnt)) (t1 := tG Ex _ H3 (Hv (.ref d2))) (key := n) (d := dEnt x) (pec_of (vv 2)) (fun H4 e4 => de_imp (φ := Hv (.str n)) (de_fld (C := C) (fs := fs) rlEx (de_var (i := 0) rlEx rfl (mo_ins rlEx) ⟨a, dx, rfl, e4 _ _ (e3 _ _ hi2)⟩ rfl (by first | exact .inl rfl | exact .inr (.inl rfl) | exact .inr (.inr rfl))) co.cls co.nN l2) (fun _ _ _ q => by rw [q]; exact .str n) rlEx)
      (fun H4 e4 => de_getD (k := .inr o) (y := .str o) hr (vdc 1 idic (e23.tr e4)) (de_imp (φ := Hv (.str o)) (de_fld (C := C) (fs := fs) rlEx (de_var (i := 0) rlEx rfl (mo_ins rlEx) ⟨a, dx, rfl, e4 _ _ (e3 _ _ hi2)⟩ rfl (by first | exact .inl rfl | exact .inr (.inl rfl) | exact .inr (.inr rfl))) co.cls co.nO l1) (fun _ _ _ q => by rw [q]; exact .str o) rlEx) key_str (by rw [fk, hf]; rfl)) (nol_kf _) (nol_ent x) (by rw [List.length_map]; exact Nat.lt_of_le_of_lt (List.length_filter_le _ _) few) fun d0 n0 Q' kq => ⟨rfl, Ex.new n0, fun v' H' e' ev => kq v' H' e' ⟨d2, kv2, ev, fun z => ?_, e' _ _ (Ex.new n0 _ _ hd3), dr3.mono rlEx ((Ex.new n0).tr e')⟩⟩) fun v' H4 e4 q => hQ v' H4 (e01.tr (e23.tr e4)) ?_
    · rw [← z, hd3] at n0; cases n0
    · obtain ⟨d5, kv5, ev5, n5, h5, r5⟩ := q
      rw [putA_kf] at r5
      rw [er]
      exact ⟨d5, kv5, ev5, Ex.back (e01.tr e23) n5, h5, r5⟩
end
end Lf
set_option maxHeartbeats 4000000
/-! Cv7: form, expressions, row_of. -/
namespace Lf
open PySem PySem.Spec L2
open PyProof.Rows hiding St wpAt wpAt_bind wpAt_mono
theorem pe_methK0 {X : Cx} {k : Nat} {C g : Addr} {m : Str} {sp : Sp} {o : Expr} {ta : TE} {apos pos : Pos} {pl : Sem Bool} (F : FnKw X.prog X.w X.K X.mg X.base k g [] sp) (hr : Room k X.A) (he : PE X o ta) (c : Cls X.K C) (hm : Meth X.K C m g)
    (ht : eval (.Call (.Attribute o m apos) [] [] pos) X.env = (do
      let ov ← eval o X.env
      standAt apos.atName
      let (f, first) ← holding [ov] (getMethod ov m pl)
      callWith pos f first (backTo pos (starEach [] X.env)) (backToKw pos (keywordEach [] X.env))) := by rfl) :
    PE X (.Call (.Attribute o m apos) [] [] pos) (fun σ H Q => ta σ H fun x H1 => ∃ a dx fs, x = .ref a ∧ H1 a = some (.ins C dx fs) ∧ fs.lookup m = none ∧ sp [.ref a] H1 Q E0) := by
  refine ⟨fun pins s σ H Q I h => ?_⟩
  refine PySem.W.methodCall_KW (pl := pl) (thn (he.run pins s σ H _ I h) fun u s1 ⟨x, H1, I1, rx, a, dx, fs, ex, ea, l, q⟩ => ?_) ht
  subst ex
  cases rx
  refine getmeth_ok I1 ea c hm l (PySem.W.callWith_K0 (first := [.ref a]) I1.kIn hm.kp (wpAny_call (codeAny_mono (F X.A X.stack s1 H1 [.ref a] [] [.ref a] [] Q E0 hr I1.env0 (.cons rfl .nil) .nil rfl q) fun r s' hq => ?_)))
  cases r with
  | error e => exact pass0 _ _ _ _ _ _ I1 hq
  | ok fl =>
    cases fl with
    | ret u => exact I1.after hq
    | next => exact False.elim hq
    | brk => exact False.elim hq
    | cont => exact False.elim hq
/-- self.entries() -/
theorem de_ents {X : Cx} {σ : St} {H : Hp} {k j : Nat} {C g : Addr} {N : Need} {es : AL Ent} {o : Expr} {apos pos : Pos} {pl : Sem Bool} (F : FnKw X.prog X.w X.K X.mg X.base k g [] (spEn X.K C N es)) (hr : Room j X.A) (le : k ≤ j) (he : PE X o (tG Ex σ H (IsI C N))) (hl : ∀ fs H, N fs H → fs.lookup ("entries" : Str) = none) (c : Cls X.K C) (hm : Meth X.K C "entries" g)
    (ht : eval (.Call (.Attribute o "entries" apos) [] [] pos) X.env = (do
      let ov ← eval o X.env
      standAt apos.atName
      let (f, first) ← holding [ov] (getMethod ov "entries" pl)
      callWith pos f first (backTo pos (starEach [] X.env)) (backToKw pos (keywordEach [] X.env))) := by rfl) :
    PE X (.Call (.Attribute o "entries" apos) [] [] pos) (tG Ex σ H (IsDic X.K (es.map (kf dEnt)))) :=
  PE.imp (pe_methK0 (pl := pl) F (hr.mono le) he c hm ht) fun _ _ _ ⟨e1, h1, kk⟩ => ⟨e1, h1, fun v H2 h2 ⟨a, dx, fs, ev, hi, hn⟩ => ⟨a, dx, fs, ev, hi, hl _ _ hn, .ref a, rfl, ⟨a, dx, fs, rfl, hi, hn⟩, fun v' H' e' q => kk v' H' (h2.tr e') (dicN_dic q)⟩⟩
theorem risingS_pw : ∀ {r : List Str} {p : Str}, risingS p r = true → (p :: r).Pairwise fun x y => sLt y x = false
  | [], _, _ => List.pairwise_singleton _ _
  | x :: r, p, h => by
    unfold risingS at h
    obtain ⟨h1, h2⟩ := Bool.and_eq_true_iff.mp h
    have t := risingS_pw h2
    have h1 : sLt x p = false := by
      rw [ltCps_eq] at h1
      show decide (x.cps.toList < p.cps.toList) = false
      simpa using h1
    refine List.pairwise_cons.mpr ⟨fun y hy => ?_, t⟩
    rcases List.mem_cons.mp hy with rfl | hy
    · exact h1
    · have h3 := (List.pairwise_cons.mp t).1 y hy
      have a := List.not_lt.mp (of_decide_eq_false h1)
      have b := List.not_lt.mp (of_decide_eq_false h3)
      exact decide_eq_false (List.not_lt.mpr (List.le_trans a b))
theorem sortedS_pw : ∀ {zs : List Str}, sortedS zs = true → zs.Pairwise fun x y => sLt y x = false
  | [], _ => .nil
  | x :: r, h => risingS_pw h
/-- sorted(d) of a dict of names: the names in order -/
theorem names_un {α : Type} {es : AL α} (nd : (es.map (·.1)).Nodup) (zs : List Str) (hp : zs.Perm (es.map (·.1))) (hs : sortedS zs = true) : zs = (sortS es).map (·.1) := by
  have u1 : Up zs := by
    have ndz : zs.Nodup := hp.nodup_iff.mpr nd
    have both : zs.Pairwise fun x y => sLt y x = false ∧ x ≠ y := List.pairwise_and_iff.mpr ⟨sortedS_pw hs, ndz⟩
    exact List.Pairwise.imp (fun h => (sLt_or h.2).resolve_right (by rw [h.1]; simp)) both
  have u2 := sort_up nd
  have pm : zs.Perm ((sortS es).map (·.1)) := hp.trans ((sort_perm es).map (·.1)).symm
  have idm : ∀ l : List Str, (l.map fun z => (z, ())).map (·.1) = l := fun l => by rw [List.map_map]; exact List.map_id l
  have e := al_perm (l := zs.map fun z => (z, ())) (m := ((sortS es).map (·.1)).map fun z => (z, ())) (by rw [idm]; exact u1) (by rw [idm]; exact u2) (pm.map _)
  have e2 := congrArg (List.map (·.1)) e
  rwa [idm, idm] at e2
def enForm (es : AL Ent) : Form := (sortS es).map fun p => (p.1, p.2.1)
def enEx (es : AL Ent) : List Ek := (sortS es).map fun p => p.2.2
end Lf
set_option maxHeartbeats 4000000
/-! Cv8: form, expressions, row_of. -/
namespace Lf
open PySem PySem.Spec L2
open PyProof.Rows hiding St wpAt wpAt_bind wpAt_mono
/-- what an instance's class must have for entries -/
structure EnOk (P : Program) (w : World) (K : Fg) (mg : Str → Option Value) (base : Heap) (k : Nat) (C : Addr) (N : Need) (es : AL Ent) : Prop where
  co : CvC K C
  mN : NMo N
  nl : ∀ fs H, N fs H → fs.lookup ("entries" : Str) = none ∧ fs.lookup ("row_of" : Str) = none
  en : ∃ g, Meth K C "entries" g ∧ FnKw P w K mg base k g [] (spEn K C N es)
  nd : (es.map (·.1)).Nodup
  few : es.length < 64
section
variable {P : Program} {w : World} {K : Fg} {mg : Str → Option Value} {base : Heap} {C g : Addr} {N : Need} {es : AL Ent} {k : Nat}
theorem ent_at (nd : (es.map (·.1)).Nodup) {p : Str × Ent} (h : p ∈ sortS es) : fndK (Sum.inr p.1) (es.map (kf dEnt)) = some (dEnt p.2) := by
  have e : fndK (Sum.inr p.1) (es.map (kf dEnt)) = (fnd p.1 es).map dEnt := fndK_of
  rw [e, fnd_of (x := p.2) nd ((sort_perm es).mem_iff.mp h)]
  rfl
abbrev spFm (K : Fg) (C : Addr) (N : Need) (es : AL Ent) : Sp := spT (fun _ => Ex) (fun _ : Unit => True) (fun _ => [IsI C N]) (fun _ => Hd K (dForm (enForm es)))
abbrev spXs (K : Fg) (C : Addr) (N : Need) (es : AL Ent) : Sp := spT (fun _ => Ex) (fun _ : Unit => True) (fun _ => [IsI C N]) (fun _ => Hd K (dEs (enEx es)))
theorem f_form (T : Tx K mg) (Dg : Df K g "form" "Kept.form" s_Kept_form) (ok : EnOk P w K mg base k C N es) : Fna P w K mg base (k + 1) g (spFm K C N es) := by
  refine fna_of Dg sc_Kept_form bn_Kept_form (fun _ => rfl) fun cdv A0 outer s H E _ vs Q hr _ ha hQ => ?_
  obtain ⟨v, rfl, hi⟩ := all1 ha
  obtain ⟨co, mN, nl, ⟨ge, hm, F⟩, nd, few⟩ := ok
  have big : 64 ≤ sizeLine := by decide
  have ls : (sortS es).length = es.length := (sort_perm es).length_eq
  refine bs_set (i := 1) rlEx sc_Kept_form.nd rfl (by first | exact .inl rfl | exact .inr rfl) (de_ents F hr (Nat.le_refl _) (de_var (i := 0) rlEx rfl (mo_i mN) hi rfl (by first | exact .inl rfl | exact .inr (.inl rfl) | exact .inr (.inr rfl))) (fun fs H h => (nl fs H h).1) co.cls hm) fun kv H1 e1 hk => ?_
  refine bs_ret (φ := Hd K (dForm (enForm es))) (de_is (de_tupleL (ds := (sortS es).map fun p => dFld (p.1, p.2.1)) rlEx rfl T.z_tuple ?_) ?_) rlEx fun v' H4 e4 q => hQ v' H4 (e1.tr e4) q
  · refine de_lcM (own := [("field", 2)]) (g := gName 2) (eo := fun p : Str × Ent => dFld (p.1, p.2.1)) rlEx rfl sc_Kept_form.nd (blkOk_by (N := ["self", "known", "field"]) (sc := defScope s_Kept_form) (by decide +kernel)) (src_lst (src := sortS es) (f := fun p => .str p.1) rlEx (de_is (d := .list (((sortS es).map (·.1)).map PyData.str)) ?_ (by rw [List.map_map]; rfl))) (by omega) (fun p _ => nol_fld _)
      (fun _ _ _ _ _ => pg_name (i := 2) sc_Kept_form.nd rfl (.inl rfl)) gm_name fun p y H3 hp e3 hy => ⟨rfl, Ex.rfl' _, fun H4 e4 _ _ _ _ _ => de_tup rlEx (dd_cons rlEx (vd 2 (rlEx.dp e4 hy)) (dd_cons rlEx (de_ixT (ds := [dK p.2.1, dE p.2.2]) rlEx (de_getD (k := .inr p.1) (y := .str p.1) hr (vdc 1 hk (e3.tr e4)) (vd 2 (rlEx.dp e4 hy)) key_str (ent_at nd hp)) (de_int rlEx) rfl) (dd_nil rlEx)))⟩
    refine de_sortedD (ks := es.map (·.1)) ?_ ?_ T.z_sorted (vdc 1 hk (Ex.rfl' _)) (by rw [List.map_map, List.map_map]; rfl) (by rw [List.length_map]; exact few) fun zs h1 h2 => names_un nd zs h1 h2
    · rfl
    · rfl
  · show PyData.tuple _ = PyData.tuple ((enForm es).map dFld)
    unfold enForm
    rw [List.map_map]
    rfl
theorem f_expressions (T : Tx K mg) (Dg : Df K g "expressions" "Kept.expressions" s_Kept_expressions) (ok : EnOk P w K mg base k C N es) : Fna P w K mg base (k + 1) g (spXs K C N es) := by
  refine fna_of Dg sc_Kept_expressions bn_Kept_expressions (fun _ => rfl) fun cdv A0 outer s H E _ vs Q hr _ ha hQ => ?_
  obtain ⟨v, rfl, hi⟩ := all1 ha
  obtain ⟨co, mN, nl, ⟨ge, hm, F⟩, nd, few⟩ := ok
  have big : 64 ≤ sizeLine := by decide
  have ls : (sortS es).length = es.length := (sort_perm es).length_eq
  refine bs_set (i := 1) rlEx sc_Kept_expressions.nd rfl (by first | exact .inl rfl | exact .inr rfl) (de_ents F hr (Nat.le_refl _) (de_var (i := 0) rlEx rfl (mo_i mN) hi rfl (by first | exact .inl rfl | exact .inr (.inl rfl) | exact .inr (.inr rfl))) (fun fs H h => (nl fs H h).1) co.cls hm) fun kv H1 e1 hk => ?_
  refine bs_ret (φ := Hd K (dEs (enEx es))) (de_is (de_tupleL (ds := (sortS es).map fun p => dE p.2.2) rlEx rfl T.z_tuple ?_) ?_) rlEx fun v' H4 e4 q => hQ v' H4 (e1.tr e4) q
  · refine de_lcM (own := [("field", 2)]) (g := gName 2) (eo := fun p : Str × Ent => dE p.2.2) rlEx rfl sc_Kept_expressions.nd (blkOk_by (N := ["self", "known", "field"]) (sc := defScope s_Kept_expressions) (by decide +kernel)) (src_lst (src := sortS es) (f := fun p => .str p.1) rlEx (de_is (d := .list (((sortS es).map (·.1)).map PyData.str)) ?_ (by rw [List.map_map]; rfl))) (by omega) (fun p _ => nol_e _)
      (fun _ _ _ _ _ => pg_name (i := 2) sc_Kept_expressions.nd rfl (.inl rfl)) gm_name fun p y H3 hp e3 hy => ⟨rfl, Ex.rfl' _, fun H4 e4 _ _ _ _ _ => de_ixT (ds := [dK p.2.1, dE p.2.2]) rlEx (de_getD (k := .inr p.1) (y := .str p.1) hr (vdc 1 hk (e3.tr e4)) (vd 2 (rlEx.dp e4 hy)) key_str (ent_at nd hp)) (de_int rlEx) rfl⟩
    refine de_sortedD (ks := es.map (·.1)) ?_ ?_ T.z_sorted (vdc 1 hk (Ex.rfl' _)) (by rw [List.map_map, List.map_map]; rfl) (by rw [List.length_map]; exact few) fun zs h1 h2 => names_un nd zs h1 h2
    · rfl
    · rfl
  · show PyData.tuple _ = PyData.tuple ((enEx es).map dE)
    unfold enEx
    rw [List.map_map]
    rfl
/-- its properties and row_of -/
structure PrOk (K : Fg) (C : Addr) : Prop where
  form : ∃ p g, PropOf K C "form" p g ∧ Df K g "form" "Kept.form" s_Kept_form
  exs : ∃ p g, PropOf K C "expressions" p g ∧ Df K g "expressions" "Kept.expressions" s_Kept_expressions
  row : Meth K C "row_of" (He.ma K (He.ga K "Kept") "row_of")
theorem de_prop {X : Cx} {σ : St} {H : Hp} {e : Expr} {pos : Pos} {φ : Pv} {fs : List (Str × V)} {a dx pa : Addr} {fld : Str} {j : Nat} (c : Fna X.prog X.w X.K X.mg X.base k g (spT (fun _ => Ex) (fun _ : Unit => True) (fun _ => [IsI C N]) (fun _ => φ))) (hr : Room j X.A) (hk : k + 1 ≤ j) (hi : H a = some (.ins C dx fs)) (mN : NMo N) (hn : N fs H) (he : PE X e (tG Ex σ H (Hv (.ref a)))) (hc : Cls X.K C) (hp : PropOf X.K C fld pa g) (hb : attributeBase e fld X.env (eval e X.env) = eval e X.env := by rfl) :
    PE X (.Attribute e fld pos) (tG Ex σ H φ) :=
  dx_prop (R' := fun _ => Ex) (χ := fun v H' => v = .ref a ∧ H' a = some (.ins C dx fs) ∧ N fs H') c () hr hk trivial (de_imp he (fun v H' e' ev => ⟨ev, e' _ _ hi, mN _ _ _ e' hn⟩) rlEx) (fun v H' q => ⟨a, dx, q.1, q.2.1⟩) hc hp (fun v H' _ q => all2_cons ⟨a, dx, fs, q.1, q.2.1, q.2.2⟩ rfl) rlEx hb
abbrev spRow (K : Fg) (C : Addr) (N : Need) (es : AL Ent) : Sp := spT (fun _ => Ex) (fun _ : Str => True) (fun c => [IsI C N, Hd K (.str c)]) (fun c => Hd K (dRow ⟨c, enForm es, some (enEx es)⟩))
theorem f_row_of (T : Tx K mg) (pr : PrOk K C) (ok : EnOk P w K mg base k C N es) : Fna P w K mg base (k + 3) (He.ma K (He.ga K "Kept") "row_of") (spRow K C N es) := by
  refine fna_of T.d_Kept_row_of sc_Kept_row_of bn_Kept_row_of (fun _ => rfl) fun cdv A0 outer s H E c vs Q hr _ ha hQ => ?_
  obtain ⟨v, u, rfl, ⟨a, dx, fs, rfl, hi, hn⟩, h2⟩ := all2 ha
  obtain ⟨p1, g1, q1, d1⟩ := pr.form
  obtain ⟨p2, g2, q2, d2⟩ := pr.exs
  refine bs_ret (φ := Hd K (.tuple [.str c, dForm (enForm es), dEs (enEx es)])) (de_tup rlEx (dd_cons rlEx (vd 1 h2) (dd_cons rlEx (de_prop (f_form T d1 ok) hr (by omega) hi ok.mN hn (vv 0) ok.co.cls q1) (dd_cons rlEx (de_prop (f_expressions T d2 ok) hr (by omega) hi ok.mN hn (vv 0) ok.co.cls q2) (dd_nil rlEx))))) rlEx hQ
end
end Lf
set_option maxHeartbeats 4000000
/-! Cv9: classes made with keywords. -/
namespace Lf
open PySem PySem.Spec L2
open PyProof.Rows hiding St wpAt wpAt_bind wpAt_mono
section
variable {X : Cx} {σ : St} {H : Hp} {C f : Addr} {k : Nat} {ks : List Str} {sp : Sp} {φ : Pv} {φs ψs : List Pv} {e : Expr} {es : List Expr} {kws : List Keyword} {p pos : Pos} {nm : Str}
theorem run_mkK {pins : List (Addr × Obj)} {s : Shared} {Q : VK} {us ws : List Value} {vs zs : List V} (M : Mk X.K C f) (F : FnKw X.prog X.w X.K X.mg X.base k f ks sp) (hr : Room (k + 1) X.A) (I : Inv X pins σ H s) (r : Vals vs us) (rz : Vals zs ws) (hl : zs.length = ks.length)
    (h : ∀ x dx, H x = none → H dx = none → dx ≠ x → sp (.ref x :: (vs ++ zs)) (upd (upd H dx (.own x)) x (.ins C dx [])) (fun v H2 => v = .non ∧ Q (.ref x) H2) E0) : wpAny (model X.prog X.w) X.A (call (.ref C) us (ks.zip ws)) (EP X pins σ Q) X.xe s := by
  have hq := h (s.heap.objs.size + 1) s.heap.objs.size (I.hok.fresh (Nat.le_succ _)) (I.hok.fresh (Nat.le_refl _)) (Nat.ne_of_lt (Nat.lt_succ_self _))
  have I2 := Inv.made (C := C) I
  refine wpAny_call (make_map (f := f) I.kIn M.makes M.init (beq_iff_eq.mp M.fn) (codeAny_mono (F _ X.stack _ _ (Value.ref (s.heap.objs.size + 1) :: us) ws (V.ref (s.heap.objs.size + 1) :: vs) zs _ E0 (hr.make C us (ks.zip ws)) (I2.env0.make C us (ks.zip ws)) (.cons rfl r) rz hl hq) fun rr s' hq' => ?_))
  cases rr with
  | error e => exact pass0 _ _ _ _ _ _ I2 hq'
  | ok fl =>
    cases fl with
    | ret u =>
      obtain ⟨v, H', I3, rv, ev, q3⟩ := I2.after hq'
      subst ev
      exact ⟨rv, ⟨V.ref (s.heap.objs.size + 1), H', I3, rfl, q3⟩⟩
    | next => exact False.elim hq'
    | brk => exact False.elim hq'
    | cont => exact False.elim hq'
/-- C(e, .., k = v, ..) -/
theorem de_mkK (M : Mk X.K C f) (F : FnKw X.prog X.w X.K X.mg X.base k f ks sp) {j : Nat} (hr : Room j X.A) (le : k + 1 ≤ j) (hg : Gl X nm) (hm : X.mg nm = some (.ref C)) (ha : PA X (e :: es) (tA Ex σ H φs)) (mo : ∀ vs a b, Ex a b → All2 φs vs a → All2 φs vs b) (hkw : PK X kws (tA Ex σ H ψs)) (lks : ψs.length = ks.length)
    (hA : ∀ a dx vs zs H1, Ex H H1 → All2 φs vs H1 → All2 ψs zs H1 → H1 a = none → H1 dx = none → dx ≠ a → ∀ Q : VK, (∀ H3, Ex H1 H3 → φ (.ref a) H3 → Q .non H3) → sp (.ref a :: (vs ++ zs)) (upd (upd H1 dx (.own a)) a (.ins C dx [])) Q E0)
    (hall : (backToKw pos (keywordEach kws X.env)).all (·.1.isSome) = true := by rfl) (hks : (backToKw pos (keywordEach kws X.env)).filterMap (·.1) = ks := by rfl) (hdb : (nm == ("__debug__" : Str)) = false := by decide)
    (he : starEach (e :: es) X.env = (false, eval e X.env) :: starEach es X.env := by rfl) (hpl : ((backTo pos (starEach (e :: es) X.env)).any (·.1) || (backToKw pos (keywordEach kws X.env)).any (·.1.isNone)) = false := by rfl) :
    PE X (.Call (.Name nm p) (e :: es) kws pos) (tG Ex σ H φ) := by
  refine ⟨fun pins s σ' H' Q I ⟨e1, h1, kk⟩ => ?_⟩
  subst e1
  refine wpAny_Call_Name_kw (ld_glob I hg hm ?_ hdb)
  refine PySem.W.callWith_KW (h₀ := X.base) I.ok.mod.kin M.kp hall (thn (ha.run pos pins s σ' H' (fun vs H1 => Ex H' H1 ∧ All2 φs vs H1) I ⟨rfl, h1, fun vs H1 h2 q => ⟨h2, q⟩⟩) fun us s1 ⟨vs, H1, I1, r, h2, q⟩ => ?_) hpl he
  refine thn (hkw.run pos pins s1 σ' H1 (fun zs H2 => Ex H1 H2 ∧ All2 ψs zs H2) I1 ⟨rfl, h1.tr h2, fun zs H2 h3 q => ⟨h3, q⟩⟩) fun ws s2 ⟨zs, H2, I2, rz, h3, qz⟩ => ⟨I2.kIn, ?_⟩
  rw [hks]
  exact run_mkK M F (hr.mono le) I2 r rz (by rw [All2.length qz, lks]) fun a dx n1 n2 n3 => hA a dx vs zs H2 ((h1.tr h2).tr h3) (mo _ _ _ h3 q) qz n1 n2 n3 _ fun H3 e3 p3 => ⟨rfl, kk _ H3 ((h2.tr h3).tr e3) p3⟩
end
end Lf
set_option maxHeartbeats 4000000
/-! Cv10: the facts of the five classes; what each conversion's entries are. -/
namespace Lf
open PySem PySem.Spec L2
open PyProof.Rows hiding St wpAt wpAt_bind wpAt_mono
abbrev cKp (K : Fg) : Addr := He.ga K "Kept"
abbrev cRn (K : Fg) : Addr := He.ga K "Renamed"
abbrev cWo (K : Fg) : Addr := He.ga K "Without"
abbrev cWi (K : Fg) : Addr := He.ga K "With"
abbrev cRw (K : Fg) : Addr := He.ga K "RenamedWith"
structure Tc (P : Program) (K : Fg) (mg : Str → Option Value) : Prop where
  gK : mg "Kept" = some (.ref (cKp K))
  gR : mg "Renamed" = some (.ref (cRn K))
  gO : mg "Without" = some (.ref (cWo K))
  gW : mg "With" = some (.ref (cWi K))
  gB : mg "RenamedWith" = some (.ref (cRw K))
  cK : CvC K (cKp K)
  cR : CvC K (cRn K)
  cO : CvC K (cWo K)
  cW : CvC K (cWi K)
  cB : CvC K (cRw K)
  pK : PrOk K (cKp K)
  pR : PrOk K (cRn K)
  pO : PrOk K (cWo K)
  pW : PrOk K (cWi K)
  pB : PrOk K (cRw K)
  mK : Mk K (cKp K) (kIni K)
  mR : Mk K (cRn K) (He.ma K (cRn K) "__init__")
  mO : Mk K (cWo K) (He.ma K (cWo K) "__init__")
  mW : Mk K (cWi K) (He.ma K (cWi K) "__init__")
  mB : Mk K (cRw K) (He.ma K (cRn K) "__init__")
  eK : Meth K (cKp K) "entries" (kEnt K)
  eR : Meth K (cRn K) "entries" (He.ma K (cRn K) "entries")
  eO : Meth K (cWo K) "entries" (He.ma K (cWo K) "entries")
  eW : Meth K (cWi K) "entries" (He.ma K (cWi K) "entries")
  eB : Meth K (cRw K) "entries" (He.ma K (cRn K) "entries")
  dRi : ∃ cc, DfK K P (He.ma K (cRn K) "__init__") cc (cRn K) "__init__" "Renamed.__init__" s_Renamed_init
  dRe : ∃ cc, DfK K P (He.ma K (cRn K) "entries") cc (cRn K) "entries" "Renamed.entries" s_Renamed_entries
  dOi : ∃ cc, DfK K P (He.ma K (cWo K) "__init__") cc (cWo K) "__init__" "Without.__init__" s_Without_init
  dOe : ∃ cc, DfK K P (He.ma K (cWo K) "entries") cc (cWo K) "entries" "Without.entries" s_Without_entries
  dWi : ∃ cc, DfK K P (He.ma K (cWi K) "__init__") cc (cWi K) "__init__" "With.__init__" s_With_init
  dWe : ∃ cc, DfK K P (He.ma K (cWi K) "entries") cc (cWi K) "entries" "With.entries" s_With_entries
  fi : PySem.W.fnIn K (kIni K) = true
  fe : PySem.W.fnIn K (kEnt K) = true
  fwi : PySem.W.fnIn K (He.ma K (cWi K) "__init__") = true
  fwe : PySem.W.fnIn K (He.ma K (cWi K) "entries") = true
  sRi : SupC K (cRn K) (cRn K) "__init__" (kIni K)
  sRe : SupC K (cRn K) (cRn K) "entries" (kEnt K)
  sOi : SupC K (cWo K) (cWo K) "__init__" (kIni K)
  sOe : SupC K (cWo K) (cWo K) "entries" (kEnt K)
  sWi : SupC K (cWi K) (cWi K) "__init__" (kIni K)
  sWe : SupC K (cWi K) (cWi K) "entries" (kEnt K)
  sBi : SupC K (cRw K) (cRn K) "__init__" (He.ma K (cWi K) "__init__")
  sBe : SupC K (cRw K) (cRn K) "entries" (He.ma K (cWi K) "entries")
  sBi2 : SupC K (cRw K) (cWi K) "__init__" (kIni K)
  sBe2 : SupC K (cRw K) (cWi K) "entries" (kEnt K)
  isi : ∀ C ∈ [cKp K, cRn K, cWo K, cWi K, cRw K], PySem.W.kitOne K (.ref C) (.ref (cKp K)) = some true
  isT : ∀ T ∈ ["tuple"], PySem.W.kitOne K (.type T) (.ref (cKp K)) = some false
/-- a conversion, beside its form -/
inductive Cv where
  | kept
  | ren (o n : Str)
  | wo (f : Str)
  | wi (f : Str) (x : Ent)
  | rw (o n f : Str) (x : Ent)
def Cv.cls (K : Fg) : Cv → Addr
  | .kept => cKp K
  | .ren _ _ => cRn K
  | .wo _ => cWo K
  | .wi _ _ => cWi K
  | .rw _ _ _ _ => cRw K
def NLk : Need := fun fs _ => fs.lookup ("entries" : Str) = none ∧ fs.lookup ("row_of" : Str) = none
def Cv.need (K : Fg) (fm : Form) : Cv → Need
  | .kept => fun fs H => NLk fs H ∧ NK K fm fs H
  | .ren o n => fun fs H => NLk fs H ∧ NK K fm fs H ∧ NRn o n fs H
  | .wo f => fun fs H => NLk fs H ∧ NK K fm fs H ∧ NWo f fs H
  | .wi f x => fun fs H => NLk fs H ∧ NK K fm fs H ∧ NWi K f x fs H
  | .rw o n f x => fun fs H => NLk fs H ∧ NK K fm fs H ∧ NWi K f x fs H ∧ NRn o n fs H
def Cv.ents (fm : Form) : Cv → AL Ent
  | .kept => keptE fm
  | .ren o n => renE o n (keptE fm)
  | .wo f => woE f (keptE fm)
  | .wi f x => wiE f x (keptE fm)
  | .rw o n f x => renE o n (wiE f x (keptE fm))
abbrev IsCv (K : Fg) (fm : Form) (cv : Cv) : Pv := IsI (cv.cls K) (cv.need K fm)
theorem nk_mo {K : Fg} {fm : Form} : NMo (NK K fm) := fun fs H H' e ⟨fv, l, d⟩ => ⟨fv, l, rlEx.dp e d⟩
theorem nwi_mo {K : Fg} {f : Str} {x : Ent} : NMo (NWi K f x) := fun fs H H' e ⟨l, ev, l2, d⟩ => ⟨l, ev, l2, rlEx.dp e d⟩
theorem need_mo {K : Fg} {fm : Form} : ∀ cv : Cv, NMo (cv.need K fm)
  | .kept => fun fs H H' e h => ⟨h.1, nk_mo _ _ _ e h.2⟩
  | .ren o n => fun fs H H' e h => ⟨h.1, nk_mo _ _ _ e h.2.1, h.2.2⟩
  | .wo f => fun fs H H' e h => ⟨h.1, nk_mo _ _ _ e h.2.1, h.2.2⟩
  | .wi f x => fun fs H H' e h => ⟨h.1, nk_mo _ _ _ e h.2.1, nwi_mo _ _ _ e h.2.2⟩
  | .rw o n f x => fun fs H H' e h => ⟨h.1, nk_mo _ _ _ e h.2.1, nwi_mo _ _ _ e h.2.2.1, h.2.2.2⟩
theorem need_lk {K : Fg} {fm : Form} : ∀ (cv : Cv) (fs : List (Str × V)) (H : Hp), cv.need K fm fs H → NLk fs H
  | .kept, _, _, h => h.1
  | .ren _ _, _, _, h => h.1
  | .wo _, _, _, h => h.1
  | .wi _ _, _, _, h => h.1
  | .rw _ _ _ _, _, _, h => h.1
theorem kept_keys {fm : Form} : (keptE fm).map (·.1) = fm.map (·.1) := by
  unfold keptE
  rw [List.map_map]
  rfl
theorem wi_nd {f : Str} {x : Ent} {es : AL Ent} (h : (es.map (·.1)).Nodup) : ((wiE f x es).map (·.1)).Nodup := put_nodup h
theorem wo_nd {f : Str} {es : AL Ent} (h : (es.map (·.1)).Nodup) : ((woE f es).map (·.1)).Nodup := h.sublist (List.Sublist.map _ List.filter_sublist)
theorem ren_nd {o n : Str} {es : AL Ent} (h : (es.map (·.1)).Nodup) : ((renE o n es).map (·.1)).Nodup := by
  unfold renE
  split
  · exact h
  · exact put_nodup (h.sublist (List.Sublist.map _ List.filter_sublist))
theorem put_len {α : Type} {l : AL α} {c : Str} {x : α} : (putS l c x).length ≤ l.length + 1 := by
  have h1 := merge_len (m := [(c, x)]) (l := l)
  exact h1
theorem wi_len {f : Str} {x : Ent} {es : AL Ent} : (wiE f x es).length ≤ es.length + 1 := put_len
theorem wo_len {f : Str} {es : AL Ent} : (woE f es).length ≤ es.length := List.length_filter_le _ _
theorem ren_len {o n : Str} {es : AL Ent} : (renE o n es).length ≤ es.length + 1 := by
  unfold renE
  split
  · omega
  · exact Nat.le_trans put_len (Nat.succ_le_succ (List.length_filter_le _ _))
theorem Tc.cvc {P : Program} {K : Fg} {mg : Str → Option Value} (C : Tc P K mg) : ∀ cv : Cv, CvC K (cv.cls K)
  | .kept => C.cK
  | .ren _ _ => C.cR
  | .wo _ => C.cO
  | .wi _ _ => C.cW
  | .rw _ _ _ _ => C.cB
section
variable {P : Program} {w : World} {K : Fg} {mg : Str → Option Value} {base : Heap}
theorem en_ok (T : Tx K mg) (C : Tc P K mg) {fm : Form} (nd : (fm.map (·.1)).Nodup) (few : fm.length < 60) : ∀ cv : Cv, EnOk P w K mg base 4 (cv.cls K) (cv.need K fm) (cv.ents fm) := by
  have kn : ((keptE fm).map (·.1)).Nodup := by rw [kept_keys]; exact nd
  have kl : (keptE fm).length = fm.length := by unfold keptE; rw [List.length_map]
  intro cv
  cases cv with
  | kept =>
    exact ⟨C.cK, need_mo _, fun fs H h => need_lk .kept fs H h, ⟨_, C.eK, (fna_kw (f_Kept_entries T C.cK nd (by omega) fun fs H h => h.2)).mono (by decide)⟩, kn, by show (keptE fm).length < 64; omega⟩
  | ren o n =>
    obtain ⟨cc, D⟩ := C.dRe
    exact ⟨C.cR, need_mo _, fun fs H h => need_lk (.ren o n) fs H h, ⟨_, C.eR, (f_Renamed_entries T D C.cR C.sRe C.fe (fna_kw (f_Kept_entries T C.cR nd (by omega) fun fs H h => h.2.1)) (need_mo (.ren o n)) (fun fs H h => h.2.2) (by omega) kn).mono (by decide)⟩, ren_nd kn, by show (renE o n (keptE fm)).length < 64; have := ren_len (o := o) (n := n) (es := keptE fm); omega⟩
  | wo f =>
    obtain ⟨cc, D⟩ := C.dOe
    exact ⟨C.cO, need_mo _, fun fs H h => need_lk (.wo f) fs H h, ⟨_, C.eO, (f_Without_entries T D C.cO C.sOe C.fe (fna_kw (f_Kept_entries T C.cO nd (by omega) fun fs H h => h.2.1)) (need_mo (.wo f)) (fun fs H h => h.2.2) (by omega) kn).mono (by decide)⟩, wo_nd kn, by show (woE f (keptE fm)).length < 64; have := wo_len (f := f) (es := keptE fm); omega⟩
  | wi f x =>
    obtain ⟨cc, D⟩ := C.dWe
    exact ⟨C.cW, need_mo _, fun fs H h => need_lk (.wi f x) fs H h, ⟨_, C.eW, (f_With_entries T D C.cW C.sWe C.fe (fna_kw (f_Kept_entries T C.cW nd (by omega) fun fs H h => h.2.1)) (need_mo (.wi f x)) (fun fs H h => h.2.2) (by omega)).mono (by decide)⟩, wi_nd kn, by show (wiE f x (keptE fm)).length < 64; have := wi_len (f := f) (x := x) (es := keptE fm); omega⟩
  | rw o n f x =>
    obtain ⟨cc, D⟩ := C.dRe
    obtain ⟨cc2, D2⟩ := C.dWe
    have l1 := wi_len (f := f) (x := x) (es := keptE fm)
    exact ⟨C.cB, need_mo _, fun fs H h => need_lk (.rw o n f x) fs H h, ⟨_, C.eB, (f_Renamed_entries T D C.cB C.sBe C.fwe (f_With_entries T D2 C.cB C.sBe2 C.fe (fna_kw (f_Kept_entries T C.cB nd (by omega) fun fs H h => h.2.1)) (need_mo (.rw o n f x)) (fun fs H h => h.2.2.1) (by omega)) (need_mo (.rw o n f x)) (fun fs H h => h.2.2.2) (by omega) (wi_nd kn)).mono (by decide)⟩, ren_nd (wi_nd kn), by show (renE o n (wiE f x (keptE fm))).length < 64; have := ren_len (o := o) (n := n) (es := wiE f x (keptE fm)); omega⟩
end
end Lf
set_option maxHeartbeats 4000000
/-! Cv11: conversions made from data. -/
namespace Lf
open PySem PySem.Spec L2
open PyProof.Rows hiding St wpAt wpAt_bind wpAt_mono
section
variable {X : Cx} {σ : St} {H : Hp} {C f : Addr} {k j : Nat} {sp : Sp} {φ : Pv} {φs : List Pv} {e : Expr} {es : List Expr} {p pos : Pos} {nm : Str}
/-- C(e, ..) -/
theorem de_mk0 (M : Mk X.K C f) (F : FnKw X.prog X.w X.K X.mg X.base k f [] sp) (hr : Room j X.A) (le : k + 1 ≤ j) (hg : Gl X nm) (hm : X.mg nm = some (.ref C)) (ha : PA X (e :: es) (tA Ex σ H φs))
    (hA : ∀ a dx vs H1, Ex H H1 → All2 φs vs H1 → H1 a = none → H1 dx = none → dx ≠ a → ∀ Q : VK, (∀ H3, Ex H1 H3 → φ (.ref a) H3 → Q .non H3) → sp (.ref a :: vs) (upd (upd H1 dx (.own a)) a (.ins C dx [])) Q E0)
    (hdb : (nm == ("__debug__" : Str)) = false := by decide) (he : starEach (e :: es) X.env = (false, eval e X.env) :: starEach es X.env := by rfl) (hpl : (backTo pos (starEach es X.env)).any (·.1) = false := by rfl) :
    PE X (.Call (.Name nm p) (e :: es) [] pos) (tG Ex σ H φ) := by
  refine ⟨fun pins s σ' H' Q I ⟨e1, h1, kk⟩ => ?_⟩
  subst e1
  refine wpAny_Call_Name_kw (ld_glob I hg hm ?_ hdb)
  refine PySem.W.callWith_K (h₀ := X.base) I.ok.mod.kin M.kp (thn (ha.run pos pins s σ' H' (fun vs H1 => Ex H' H1 ∧ All2 φs vs H1) I ⟨rfl, h1, fun vs H1 h2 q => ⟨h2, q⟩⟩) fun us s1 ⟨vs, H1, I1, r, h2, q⟩ => ⟨I1.kIn, ?_⟩) he hpl
  have z := run_mkK (ks := []) (ws := []) (zs := []) (Q := Q) M F (hr.mono le) I1 r .nil rfl fun a dx n1 n2 n3 => by
    rw [List.append_nil]
    exact hA a dx vs H1 (h1.tr h2) q n1 n2 n3 _ fun H3 e3 p3 => ⟨rfl, kk _ H3 (h2.tr e3) p3⟩
  exact z
theorem fresh_ex {H1 : Hp} {a dx : Addr} (n1 : H1 a = none) (n2 : H1 dx = none) (ne : dx ≠ a) {o u : HO} : Ex H1 (upd (upd H1 dx o) a u) := (Ex.new n2).tr (Ex.new (by rw [upd_ne (Ne.symm ne)]; exact n1))
end
section
variable {X : Cx} {σ : St} {H : Hp} {e e1 e2 e3 e4 e5 : Expr} {p pos k1 k2 k3 k4 k5 : Pos} {j : Nat} {P : Program} {K : Fg} {mg : Str → Option Value} {fm : Form}
theorem mk_kept (T : Tx X.K X.mg) (C : Tc X.prog X.K X.mg) (hr : Room j X.A) (le : 2 ≤ j) (hg : Gl X "Kept") (he : PE X e (tG Ex σ H (Hd X.K (dForm fm)))) (h1 : starEach [e] X.env = (false, eval e X.env) :: starEach [] X.env := by rfl) (h2 : (backTo pos (starEach [] X.env)).any (·.1) = false := by rfl) :
    PE X (.Call (.Name "Kept" p) [e] [] pos) (tG Ex σ H (IsCv X.K fm .kept)) := by
  refine de_mk0 (φs := [Hd X.K (dForm fm)]) C.mK (fna_kw (f_Kept_init T)) hr le hg C.gK (da_cons rlEx (mo_d rlEx) he (da_nil rlEx) h1) (fun a dx vs H1 e1 q n1 n2 ne Q hQ => ?_) (by decide) h1 h2
  obtain ⟨fv, rfl, hf⟩ := all1 q
  have ex := fresh_ex (o := .own a) (u := .ins (cKp X.K) dx []) n1 n2 ne
  refine ⟨⟨a, cKp X.K, dx, fv⟩, C.cK, all2_cons ⟨rfl, upd_same⟩ (all2_cons rfl rfl), fun v H3 r3 ⟨ev, b⟩ => ?_⟩
  subst ev
  have x3 : Ex H1 H3 := RO.ex ex n1 r3
  exact hQ H3 x3 ⟨a, dx, _, rfl, b, ⟨rfl, rfl⟩, fv, rfl, rlEx.dp x3 hf⟩
theorem mo2 {K : Fg} {d : PyData} : ∀ vs a b, Ex a b → All2 [Hd K d] vs a → All2 [Hd K d] vs b := fun vs a b x q => by
  obtain ⟨v, rfl, h⟩ := all1 q
  exact all2_cons (rlEx.dp x h) rfl
theorem pk_d {φ1 : Pv} {φs : List Pv} {kws : List Keyword} {nk : Option Str} (m : Mo Ex φ1) (he : PE X e (tG Ex σ H φ1)) (t : PK X kws (tA Ex σ H φs)) : PK X (⟨nk, e, k1⟩ :: kws) (tA Ex σ H (φ1 :: φs)) := ⟨fun pos pins s σ' H' Q I ⟨e1, h1, k⟩ => (pk_cons he t).run pos pins s σ' H' Q I ⟨e1, h1, fun v H2 h2 q => ⟨e1, h1.tr h2, fun vs H3 h3 qs => k (v :: vs) H3 (h2.tr h3) ⟨v, vs, rfl, m _ _ _ h3 q, qs⟩⟩⟩⟩
theorem pk_z : PK X [] (tA Ex σ H []) := ⟨fun pos pins s σ' H' Q I ⟨e1, h1, k⟩ => pk_nil.run pos pins s σ' H' Q I (k [] H' (Ex.rfl' _) rfl)⟩
abbrev kwSide (X : Cx) (pos : Pos) (e : Expr) (kws : List Keyword) (ks : List Str) : Prop := (backToKw pos (keywordEach kws X.env)).all (·.1.isSome) = true ∧ (backToKw pos (keywordEach kws X.env)).filterMap (·.1) = ks ∧ starEach [e] X.env = (false, eval e X.env) :: starEach [] X.env ∧ ((backTo pos (starEach [e] X.env)).any (·.1) || (backToKw pos (keywordEach kws X.env)).any (·.1.isNone)) = false
theorem mk_ren {o n : Str} (T : Tx X.K X.mg) (C : Tc X.prog X.K X.mg) (hr : Room j X.A) (le : 3 ≤ j) (hg : Gl X "Renamed") (he : PE X e (tG Ex σ H (Hd X.K (dForm fm)))) (ho : PE X e1 (tG Ex σ H (Hd X.K (.str o)))) (hn : PE X e2 (tG Ex σ H (Hd X.K (.str n))))
    (sd : kwSide X pos e [⟨some "old", e1, k1⟩, ⟨some "new", e2, k2⟩] ["old", "new"] := by exact ⟨rfl, rfl, rfl, rfl⟩) : PE X (.Call (.Name "Renamed" p) [e] [⟨some "old", e1, k1⟩, ⟨some "new", e2, k2⟩] pos) (tG Ex σ H (IsCv X.K fm (.ren o n))) := by
  obtain ⟨s1, s2, s3, s4⟩ := sd
  obtain ⟨cc, D⟩ := C.dRi
  refine de_mkK (φs := [Hd X.K (dForm fm)]) (ψs := [Hd X.K (.str o), Hd X.K (.str n)]) C.mR (f_Renamed_init (w := X.w) (base := X.base) T D C.fi) hr le hg C.gR (da_cons rlEx (mo_d rlEx) he (da_nil rlEx) s3) mo2 (pk_d (mo_d rlEx) ho (pk_d (mo_d rlEx) hn pk_z)) rfl (fun a dx vs zs H1 e1 q qz n1 n2 ne Q hQ => ?_) s1 s2 (by decide) s3 s4
  obtain ⟨fv, rfl, hf⟩ := all1 q
  obtain ⟨y1, y2, rfl, z1, z2⟩ := all2 qz
  obtain rfl := dp_str z1
  obtain rfl := dp_str z2
  have ex := fresh_ex (o := .own a) (u := .ins (cRn X.K) dx []) n1 n2 ne
  refine ⟨rfl, ⟨⟨a, cRn X.K, dx, fv⟩, .str o, .str n⟩, ⟨C.cR, C.sRi⟩, all2_cons ⟨rfl, upd_same⟩ (all2_cons rfl (all2_cons rfl (all2_cons rfl rfl))), fun v H3 r3 ⟨ev, b⟩ => ?_⟩
  subst ev
  have x3 : Ex H1 H3 := RO.ex ex n1 r3
  exact hQ H3 x3 ⟨a, dx, _, rfl, b, ⟨rfl, rfl⟩, ⟨fv, rfl, rlEx.dp x3 hf⟩, rfl, rfl⟩
theorem mk_wo {f : Str} (T : Tx X.K X.mg) (C : Tc X.prog X.K X.mg) (hr : Room j X.A) (le : 3 ≤ j) (hg : Gl X "Without") (he : PE X e (tG Ex σ H (Hd X.K (dForm fm)))) (ho : PE X e1 (tG Ex σ H (Hd X.K (.str f))))
    (sd : kwSide X pos e [⟨some "field", e1, k1⟩] ["field"] := by exact ⟨rfl, rfl, rfl, rfl⟩) : PE X (.Call (.Name "Without" p) [e] [⟨some "field", e1, k1⟩] pos) (tG Ex σ H (IsCv X.K fm (.wo f))) := by
  obtain ⟨s1, s2, s3, s4⟩ := sd
  obtain ⟨cc, D⟩ := C.dOi
  refine de_mkK (φs := [Hd X.K (dForm fm)]) (ψs := [Hd X.K (.str f)]) C.mO (f_Without_init (w := X.w) (base := X.base) T D C.fi) hr le hg C.gO (da_cons rlEx (mo_d rlEx) he (da_nil rlEx) s3) mo2 (pk_d (mo_d rlEx) ho pk_z) rfl (fun a dx vs zs H1 e1 q qz n1 n2 ne Q hQ => ?_) s1 s2 (by decide) s3 s4
  obtain ⟨fv, rfl, hf⟩ := all1 q
  obtain ⟨y1, rfl, z1⟩ := all1 qz
  obtain rfl := dp_str z1
  have ex := fresh_ex (o := .own a) (u := .ins (cWo X.K) dx []) n1 n2 ne
  refine ⟨rfl, ⟨⟨a, cWo X.K, dx, fv⟩, .str f⟩, ⟨C.cO, C.sOi⟩, all2_cons ⟨rfl, upd_same⟩ (all2_cons rfl (all2_cons rfl rfl)), fun v H3 r3 ⟨ev, b⟩ => ?_⟩
  subst ev
  have x3 : Ex H1 H3 := RO.ex ex n1 r3
  exact hQ H3 x3 ⟨a, dx, _, rfl, b, ⟨rfl, rfl⟩, ⟨fv, rfl, rlEx.dp x3 hf⟩, rfl⟩
theorem mk_wi {f : Str} {x : Ent} (T : Tx X.K X.mg) (C : Tc X.prog X.K X.mg) (hr : Room j X.A) (le : 3 ≤ j) (hg : Gl X "With") (he : PE X e (tG Ex σ H (Hd X.K (dForm fm)))) (ho : PE X e1 (tG Ex σ H (Hd X.K (.str f)))) (hk : PE X e2 (tG Ex σ H (Hd X.K (dK x.1)))) (hx : PE X e3 (tG Ex σ H (Hd X.K (dE x.2))))
    (sd : kwSide X pos e [⟨some "field", e1, k1⟩, ⟨some "kind", e2, k2⟩, ⟨some "expression", e3, k3⟩] ["field", "kind", "expression"] := by exact ⟨rfl, rfl, rfl, rfl⟩) : PE X (.Call (.Name "With" p) [e] [⟨some "field", e1, k1⟩, ⟨some "kind", e2, k2⟩, ⟨some "expression", e3, k3⟩] pos) (tG Ex σ H (IsCv X.K fm (.wi f x))) := by
  obtain ⟨s1, s2, s3, s4⟩ := sd
  obtain ⟨cc, D⟩ := C.dWi
  refine de_mkK (φs := [Hd X.K (dForm fm)]) (ψs := [Hd X.K (.str f), Hd X.K (dK x.1), Hd X.K (dE x.2)]) C.mW (f_With_init (w := X.w) (base := X.base) T D C.fi) hr le hg C.gW (da_cons rlEx (mo_d rlEx) he (da_nil rlEx) s3) mo2 (pk_d (mo_d rlEx) ho (pk_d (mo_d rlEx) hk (pk_d (mo_d rlEx) hx pk_z))) rfl (fun a dx vs zs H1 e1 q qz n1 n2 ne Q hQ => ?_) s1 s2 (by decide) s3 s4
  obtain ⟨fv, rfl, hf⟩ := all1 q
  obtain ⟨y1, y2, y3, rfl, z1, z2, z3⟩ := all3 qz
  obtain rfl := dp_str z1
  have ex := fresh_ex (o := .own a) (u := .ins (cWi X.K) dx []) n1 n2 ne
  refine ⟨rfl, ⟨⟨a, cWi X.K, dx, fv⟩, .str f, y2, y3⟩, ⟨C.cW, C.sWi⟩, all2_cons ⟨rfl, upd_same⟩ (all2_cons rfl (all2_cons rfl (all2_cons rfl (all2_cons rfl rfl)))), fun v H3 r3 ⟨ev, t, b, nt, ht⟩ => ?_⟩
  subst ev
  have x3 : Ex H1 H3 := RO.ex ex n1 r3
  exact hQ H3 x3 ⟨a, dx, _, rfl, b, ⟨rfl, rfl⟩, ⟨fv, rfl, rlEx.dp x3 hf⟩, rfl, .ref t, rfl, .tup (.inl (.inl ht)) (.cons (rlEx.dp x3 z2) (.cons (rlEx.dp x3 z3) .nil))⟩
theorem mk_rw {o n f : Str} {x : Ent} (T : Tx X.K X.mg) (C : Tc X.prog X.K X.mg) (hr : Room j X.A) (le : 4 ≤ j) (hg : Gl X "RenamedWith") (he : PE X e (tG Ex σ H (Hd X.K (dForm fm)))) (ho : PE X e1 (tG Ex σ H (Hd X.K (.str o)))) (hn : PE X e2 (tG Ex σ H (Hd X.K (.str n)))) (hf : PE X e3 (tG Ex σ H (Hd X.K (.str f)))) (hk : PE X e4 (tG Ex σ H (Hd X.K (dK x.1)))) (hx : PE X e5 (tG Ex σ H (Hd X.K (dE x.2))))
    (sd : kwSide X pos e [⟨some "old", e1, k1⟩, ⟨some "new", e2, k2⟩, ⟨some "field", e3, k3⟩, ⟨some "kind", e4, k4⟩, ⟨some "expression", e5, k5⟩] ["old", "new", "field", "kind", "expression"] := by exact ⟨rfl, rfl, rfl, rfl⟩) :
    PE X (.Call (.Name "RenamedWith" p) [e] [⟨some "old", e1, k1⟩, ⟨some "new", e2, k2⟩, ⟨some "field", e3, k3⟩, ⟨some "kind", e4, k4⟩, ⟨some "expression", e5, k5⟩] pos) (tG Ex σ H (IsCv X.K fm (.rw o n f x))) := by
  obtain ⟨s1, s2, s3, s4⟩ := sd
  obtain ⟨cc, D⟩ := C.dRi
  obtain ⟨cc2, D2⟩ := C.dWi
  refine de_mkK (φs := [Hd X.K (dForm fm)]) (ψs := [Hd X.K (.str o), Hd X.K (.str n), Hd X.K (.str f), Hd X.K (dK x.1), Hd X.K (dE x.2)]) C.mB (f_Renamed_init3 (w := X.w) (base := X.base) T D D2 C.fi C.fwi) hr le hg C.gB (da_cons rlEx (mo_d rlEx) he (da_nil rlEx) s3) mo2 (pk_d (mo_d rlEx) ho (pk_d (mo_d rlEx) hn (pk_d (mo_d rlEx) hf (pk_d (mo_d rlEx) hk (pk_d (mo_d rlEx) hx pk_z))))) rfl (fun a dx vs zs H1 e1 q qz n1 n2 ne Q hQ => ?_) s1 s2 (by decide) s3 s4
  obtain ⟨fv, rfl, hfm⟩ := all1 q
  obtain ⟨y1, y2, y3, y4, y5, rfl, z1, z2, z3, z4, z5⟩ := all5 qz
  obtain rfl := dp_str z1
  obtain rfl := dp_str z2
  obtain rfl := dp_str z3
  have ex := fresh_ex (o := .own a) (u := .ins (cRw X.K) dx []) n1 n2 ne
  refine ⟨rfl, ⟨⟨⟨a, cRw X.K, dx, fv⟩, .str f, y4, y5⟩, .str o, .str n⟩, ⟨C.cB, C.sBi, C.sBi2⟩, all2_cons ⟨rfl, upd_same⟩ (all2_cons rfl (all2_cons rfl (all2_cons rfl (all2_cons rfl (all2_cons rfl (all2_cons rfl rfl)))))), fun v H3 r3 ⟨ev, t, b, nt, ht⟩ => ?_⟩
  subst ev
  have x3 : Ex H1 H3 := RO.ex ex n1 r3
  exact hQ H3 x3 ⟨a, dx, _, rfl, b, ⟨rfl, rfl⟩, ⟨fv, rfl, rlEx.dp x3 hfm⟩, ⟨rfl, .ref t, rfl, .tup (.inl (.inl ht)) (.cons (rlEx.dp x3 z4) (.cons (rlEx.dp x3 z5) .nil))⟩, rfl, rfl⟩
end
end Lf
set_option maxHeartbeats 4000000
/-! Gd1: promises kept where no guard stands around (repr of what has items). -/
namespace Lf
open PySem PySem.Spec L2
open PyProof.Rows hiding St wpAt wpAt_bind wpAt_mono
theorem guards_deeper {A : Around} {env : Env} (h : A.guards = some []) : (A.deeper env).guards = some [] := h
theorem guards_in1 {A : Around} (h : A.guards = some []) : A.in1.guards = some [] := h
/-- a promise of a def, where no guard stands around -/
def FnG (P : Program) (w : World) (K : Fg) (mg : Str → Option Value) (base : Heap) (k : Nat) (f : Addr) (sp : Sp) : Prop :=
  ∀ (A : Around) (outer : List Env) (s : Shared) (H : Hp) (us : List Value) (vs : List V) (Q : VK) (E : XK), Room k A → A.guards = some [] → Env0 P w K mg base A outer s H → Vals vs us → sp vs H Q E →
    codeAny (model P w) A (.call (.ref f) ⟨us, []⟩) (CR CX0 outer P w H s Q E) s
section
variable {P : Program} {w : World} {K : Fg} {mg : Str → Option Value} {base : Heap} {τ : Type} {R : τ → Rel} {Pre : τ → Prop} {A : τ → List Pv} {B : τ → Pv} {k : Nat}
theorem fng_of {f : Addr} {nm qual : Str} {st : Stmt} {N ps : List Str} (D : Df K f nm qual st) (S : FnScope N ps (defScope st)) (bnd : Bnd1 nm qual st ps) (len : ∀ x, (A x).length = ps.length)
    (body : ∀ (cdv : Value) (A0 : Around) (outer : List Env) (s : Shared) (H : Hp) (E : XK) (x : τ) (vs : List V) (Q : VK), Room k (A0.deeper (envOfC qual (defScope st) s.heap.objs.size f cdv)) → A0.guards = some [] → Pre x → All2 (A x) vs H → (∀ v H', R x H H' → B x v H' → Q v H') →
      PSs (CxB P w K mg base N qual (defScope st) f cdv A0 outer s H E) (defBody st) (tAt (start N vs) H { nx := fun _ H' => Q .non H', rt := Q })) : FnG P w K mg base (k + 1) f (spT R Pre A B) := by
  obtain ⟨fd, F⟩ := D.ex
  obtain ⟨oc, od, dV, kV, doc, pm, an, cdv, ct, osl, rfl, lk, hcd, dv, _⟩ := F.ex
  obtain rfl : dV = .none := by
    rcases dv with ⟨_, e⟩ | ⟨e, _⟩
    · exact e
    · exact absurd rfl e
  intro A0 outer s H us vs Q E hr hg e0 r ⟨x, pre, a, q⟩
  have lv : vs.length = ps.length := by rw [All2.length a, len x]
  refine StX.run_bnd lk hcd S hr e0 (G := fun xs H2 => xs = vs ∧ H2 = H) (fun A' Ex' Q' hQ => ?_) fun s2 H2 xs ⟨e1, e2⟩ hr2 => ⟨_, (body cdv A0 outer s2 H2 E x xs Q hr2 hg pre (by rw [e1, e2]; exact a) (by rw [e2]; exact q)).nox, rfl, rfl, rfl⟩
  have hb := bnd kV doc pm an cdv ct us (by rw [← r.length]; exact lv)
  rw [hb]
  exact wpAny_pure (hQ s H vs us e0 (Un.kept fun _ _ e => e) rfl (fun _ _ z => z) r lv ⟨rfl, rfl⟩)
end
section
variable {X : Cx} {σ : St} {H : Hp} {e : Expr} {p pos : Pos} {ds : List PyData}
/-- repr(t), t a tuple of data -/
theorem de_repr (hgd : X.A.guards = some []) (sh : (PyData.tuple ds).showable = true) (nd : (PyData.tuple ds).hasDict = false) (hu : X.A.units + ((PyData.tuple ds).depth + 1) < cLine) (hz : (PyData.tuple ds).shown.length ≤ sizeLine) (hg : Gl X "repr") (hm : X.mg "repr" = none) (he : PE X e (tG Ex σ H (Hd X.K (.tuple ds))))
    (h1 : starEach [e] X.env = (false, eval e X.env) :: starEach [] X.env := by rfl) : PE X (.Call (.Name "repr" p) [e] [] pos) (tG Ex σ H (Hd X.K (.str (PyData.tuple ds).shown))) := by
  refine de_cb (id := "repr") (f := fun xs H' Q => ∃ a, xs = [.ref a] ∧ Dp X.K H' (.ref a) (.tuple ds) ∧ Q (.str (PyData.tuple ds).shown) H') rlEx (fun pins s σ' H' xs us Q I r h => ?_) hg hm (by decide +kernel) (da_cons rlEx (mo_d rlEx) he (da_nil rlEx) h1) (fun vs H1 _ q Q k => ?_) (he := h1)
  · obtain ⟨a, rfl, hd, q⟩ := h
    obtain ⟨u, rfl, ru⟩ := vals1 r
    cases ru
    obtain ⟨as, rd⟩ := Dp.reads I (.tuple ds) _ _ hd rfl
    exact repr_of_reads' rd sh (fun z => by rw [nd] at z; cases z) hgd hu (fun _ _ e => e) (fun h' u tk hk => ⟨.str _, H', I.kept (t' := tk) hk, ⟨u, rfl⟩, q⟩) hz
  · obtain ⟨v, rfl, h⟩ := all1 q
    obtain ⟨a, xs, rfl, _, _⟩ := dp_tup h
    exact ⟨a, rfl, h, k _ H1 (Ex.rfl' _) (.str _)⟩
end
end Lf
set_option maxHeartbeats 4000000
/-! Cv12: isinstance of a conversion; Kept.__eq__. -/
namespace Lf
open PySem PySem.Spec L2
open PyProof.Rows hiding St wpAt wpAt_bind wpAt_mono
theorem cls_in {K : Fg} : ∀ cv : Cv, cv.cls K ∈ [cKp K, cRn K, cWo K, cWi K, cRw K]
  | .kept => by simp [Cv.cls]
  | .ren _ _ => by simp [Cv.cls]
  | .wo _ => by simp [Cv.cls]
  | .wi _ _ => by simp [Cv.cls]
  | .rw _ _ _ _ => by simp [Cv.cls]
/-- isinstance(x, Kept), x a conversion -/
theorem de_isCv {X : Cx} {σ : St} {H : Hp} {a b : Expr} {p pos : Pos} {fm : Form} {cv : Cv} (C : Tc X.prog X.K X.mg) (hg : Gl X "isinstance") (hm : X.mg "isinstance" = none) (ha : PE X a (tG Ex σ H (IsCv X.K fm cv))) (hb : PE X b (tG Ex σ H (Hv (.ref (cKp X.K)))))
    (h1 : starEach [a, b] X.env = (false, eval a X.env) :: starEach [b] X.env := by rfl) (h2 : starEach [b] X.env = (false, eval b X.env) :: starEach [] X.env := by rfl) (h3 : (backTo pos (starEach [b] X.env)).any (·.1) = false := by rfl) :
    PE X (.Call (.Name "isinstance" p) [a, b] [] pos) (tG Ex σ H (Hd X.K (.bool true))) :=
  de_cb rlEx call_isi hg hm (by decide +kernel) (da_cons rlEx (mo_i (need_mo cv)) ha (da_cons rlEx mo_v hb (da_nil rlEx) h2) h1) (fun vs H1 _ q Q k => by
    obtain ⟨x, c, rfl, ⟨r, dx, fs, rfl, hi, _⟩, rfl⟩ := all2 q
    have co := C.cvc cv
    exact ⟨.ref r, .ref (cKp X.K), .ref (cv.cls X.K), .ref (cKp X.K), true, rfl, .own _, .base (.ins hi co.cls co.dc co.dg co.dt co.mo), C.isi _ (cls_in cv), k _ H1 (Ex.rfl' _) (.bl true)⟩) (he := h1) (hpl := h3)
/-- form and expressions of a conversion, as one tuple -/
def cvD (fm : Form) (cv : Cv) : List PyData := [dForm (enForm (cv.ents fm)), dEs (enEx (cv.ents fm))]
structure EqX where
  fm : Form
  cv : Cv
  fm2 : Form
  cv2 : Cv
def shOk (ds : List PyData) : Prop := (PyData.tuple ds).showable = true ∧ (PyData.tuple ds).hasDict = false ∧ (PyData.tuple ds).depth < 10 ∧ (PyData.tuple ds).shown.length ≤ sizeLine
structure EqX.ok (x : EqX) : Prop where
  n1 : (x.fm.map (·.1)).Nodup
  l1 : x.fm.length < 60
  n2 : (x.fm2.map (·.1)).Nodup
  l2 : x.fm2.length < 60
  s1 : shOk (cvD x.fm x.cv)
  s2 : shOk (cvD x.fm2 x.cv2)
def EqX.res (x : EqX) : Bool := decide ((PyData.tuple (cvD x.fm x.cv)).shown = (PyData.tuple (cvD x.fm2 x.cv2)).shown)
theorem Tc.prc {P : Program} {K : Fg} {mg : Str → Option Value} (C : Tc P K mg) : ∀ cv : Cv, PrOk K (cv.cls K)
  | .kept => C.pK
  | .ren _ _ => C.pR
  | .wo _ => C.pO
  | .wi _ _ => C.pW
  | .rw _ _ _ _ => C.pB
section
variable {P : Program} {w : World} {K : Fg} {mg : Str → Option Value} {base : Heap}
abbrev kEq (K : Fg) : Addr := He.ma K (cKp K) "__eq__"
abbrev spCvEq (K : Fg) : Sp := spT (fun _ => Ex) (fun x : EqX => x.ok) (fun x => [IsCv K x.fm x.cv, IsCv K x.fm2 x.cv2]) (fun x => Hd K (.bool x.res))
theorem f_Kept_eq (T : Tx K mg) (C : Tc P K mg) : FnG P w K mg base 8 (kEq K) (spCvEq K) := by
  refine fng_of T.d_Kept_eq sc_Kept_eq bn_Kept_eq (fun _ => rfl) fun cdv A0 outer s H E x vs Q hr hg ok ha hQ => ?_
  obtain ⟨v, u, rfl, h1, h2⟩ := all2 ha
  obtain ⟨n1, l1, n2, l2, ⟨a1, a2, a3, a4⟩, ⟨b1, b2, b3, b4⟩⟩ := ok
  have E1 := en_ok (w := w) (base := base) T C n1 l1 x.cv
  have E2 := en_ok (w := w) (base := base) T C n2 l2 x.cv2
  obtain ⟨a, dx, fs, rfl, hi, hn⟩ := h1
  obtain ⟨b, dy, gs, rfl, hj, hm⟩ := h2
  obtain ⟨p1, g1, q1, d1⟩ := (C.prc x.cv).form
  obtain ⟨p2, g2, q2, d2⟩ := (C.prc x.cv).exs
  obtain ⟨p3, g3, q3, d3⟩ := (C.prc x.cv2).form
  obtain ⟨p4, g4, q4, d4⟩ := (C.prc x.cv2).exs
  have un := hr.un
  refine bs_when (t := false) rlEx (dt_is (dt_not (dt_val rlEx (de_isCv (fm := x.fm2) (cv := x.cv2) C rfl T.z_isinstance (de_var (i := 1) rlEx rfl (mo_i (need_mo x.cv2)) ⟨b, dy, gs, rfl, hj, hm⟩ rfl (.inl rfl)) (de_glob rlEx rfl C.gK rfl)))) rfl) (fun z => by cases z) fun _ H1 e1 => ?_
  refine bs_ret (φ := Hd K (.bool x.res)) (de_is (de_eqS rlEx (de_repr hg a1 a2 ?_ a4 rfl T.z_repr (de_tup (z := by show 2 ≤ sizeLine; decide) rlEx (dd_cons rlEx (de_prop (f_form T d1 E1) hr (by decide) (e1 _ _ hi) E1.mN (E1.mN _ _ _ e1 hn) (vv 0) E1.co.cls q1) (dd_cons rlEx (de_prop (f_expressions T d2 E1) hr (by decide) (e1 _ _ hi) E1.mN (E1.mN _ _ _ e1 hn) (vv 0) E1.co.cls q2) (dd_nil rlEx)))))
    (de_repr hg b1 b2 ?_ b4 rfl T.z_repr (de_tup (z := by show 2 ≤ sizeLine; decide) rlEx (dd_cons rlEx (de_prop (f_form T d3 E2) hr (by decide) (e1 _ _ hj) E2.mN (E2.mN _ _ _ e1 hm) (vv 1) E2.co.cls q3) (dd_cons rlEx (de_prop (f_expressions T d4 E2) hr (by decide) (e1 _ _ hj) E2.mN (E2.mN _ _ _ e1 hm) (vv 1) E2.co.cls q4) (dd_nil rlEx)))))) rfl) rlEx fun v' H4 e4 q => hQ v' H4 (e1.tr e4) q
  · show (A0.deeper _).units + _ < cLine
    have : (PyData.tuple (cvD x.fm x.cv)).depth < 10 := a3
    show (A0.deeper _).units + ((PyData.tuple (cvD x.fm x.cv)).depth + 1) < cLine
    omega
  · show (A0.deeper _).units + ((PyData.tuple (cvD x.fm2 x.cv2)).depth + 1) < cLine
    omega
end
end Lf
set_option maxHeartbeats 4000000
/-! Eq1: == and != of two instances, the right one's class below the left one's. -/
namespace Lf
open PySem PySem.Spec L2
open PyProof.Rows hiding St wpAt wpAt_bind wpAt_mono
section
variable {prog : Program} {w : World} {A : Around} {E : Value → Shared → Prop} {s : Shared} {K : Fg} {x y Cx Cy f : Addr} {ox oy : Obj} {od od' : Option Obj}
theorem rc_sub {op : CmpOp} {Q : Value → Shared → Prop} (hu : A.units < cLine) (KI : K.In s.heap) (I : PySem.W.InstAt s.heap x ox Cx od) (J : PySem.W.InstAt s.heap y oy Cy od') (ne : Cx ≠ Cy) (sub : PySem.W.subIn K (.ref Cy) (.ref Cx) = some true)
    (h : wpAny (model prog w) A (callSpecialIfBound? (.ref y) (cmpInfo op).2.2 [.ref x]) (fun r s' => ∃ b, r = some (.bool b) ∧ Q (.bool b) s') E s) : wpAny (model prog w) A (richCompare op (.ref x) (.ref y)) Q E s := by
  have one : wpAny (model prog w) A (tryCompare (.ref y) (cmpInfo op).2.2 (.ref x)) (fun r s' => ∃ b, r = some (.bool b) ∧ Q (.bool b) s') E s := by
    unfold tryCompare
    refine wpAny_bind (wpAny_mono h (fun r s' hr => ?_) fun _ _ e => e)
    obtain ⟨b, rfl, q⟩ := hr
    exact wpAny_pure ⟨b, rfl, q⟩
  unfold richCompare
  simp only [oneThing_ref]
  refine wpAny_holding (wpAny_bind (wpAny_cRoomFor hu ?_))
  refine wpAny_bind (I.type.here (wpAny_bind (J.type.here ?_)))
  have e1 : (Value.ref Cx != Value.ref Cy) = true := by simpa using ne
  rw [if_pos e1]
  refine wpAny_bind ((PySem.W.looks_subIn KI sub).here ?_)
  simp only [if_true]
  refine wpAny_bind (wpAny_mono one (fun r s' z => ?_) fun _ _ e => e)
  obtain ⟨b, rfl, hq⟩ := z
  exact wpAny_bind (wpAny_rule (wpAny_pure hq))
/-- y != x by object.__ne__: not (y == x) -/
theorem ne_obj {Q : Value → Shared → Prop} (hu : A.units + 1 < cLine) (KI : K.In s.heap) (J : PySem.W.InstAt s.heap y oy Cy od') (mo : PySem.W.mroIn K Cy (.type "object") = some true)
    (h : wpAny (model prog w) A.in1 (callSpecialIfBound? (.ref y) "__eq__" [.ref x]) (fun r s' => ∃ b, r = some (.bool b) ∧ Q (.bool (!b)) s') E s) : wpAny (model prog w) A (call (.builtin "object.__ne__") [.ref y, .ref x]) Q E s := by
  have iv : PySem.W.Looks (model prog w) s.heap (isInstance (.ref y) (.type "object")) true := by
    exact J.type.andThen (PySem.W.looks_mroIn KI mo)
  refine wpAny_call (codeAny_call_builtin F.slot_object_ne.plain F.entry_object_ne (@PySem.W.check_slot (model prog w) _ _ _ "object.__ne__" "object" "__ne__" (.ref y) [.ref x] [] _ (by decide +kernel) (by decide +kernel) iv (F.args_object_ne_2 _ _) ?_))
  show wpAny _ _ (do
    cRoomFor "comparison" [.ref y, .ref x]
    match ← callSpecialIfBound? (.ref y) "__eq__" [.ref x] with
    | some .notImplemented | none => ret .notImplemented
    | some r => ret (.bool (!(← truthy r)))) _ _ s
  refine wpAny_bind (wpAny_cRoomFor (show A.in1.units < cLine by show A.units + 1 < cLine; exact hu) (wpAny_bind (wpAny_mono h (fun r s' hr => ?_) fun _ _ e => e)))
  obtain ⟨b, rfl, q⟩ := hr
  exact wpAny_bind (wpAny_truthy_bool (wpAny_pure q))
end
end Lf
set_option maxHeartbeats 4000000
/-! Fd1: values told by a property; comprehensions and loops over such; the feed's places. -/
namespace Lf
open PySem PySem.Spec L2
open PyProof.Rows hiding St wpAt wpAt_bind wpAt_mono
/-! ### the feed -/
structure FdX where
  f : Addr
  c : Addr
  cs : List Int
abbrev fdD (x : FdX) (a l n : Int) : HO := .dK [(.inr "cells", .ref x.c), (.inr "at", .int a), (.inr "left", .int l), (.inr "count", .int n)]
def FdAt (K : Fg) (x : FdX) (H : Hp) : Prop := SqL K H x.c (x.cs.map V.int) ∧ x.cs.length ≤ 63 ∧ ∃ a l n : Int, H x.f = some (fdD x a l n)
/-- all that stood stands, but for the feed, which stays one -/
def RF (K : Fg) (x : FdX) : Rel := fun H H' => RN x.f H H' ∧ (FdAt K x H → FdAt K x H')
theorem rlRF (K : Fg) (x : FdX) : Rl (RF K x) := by
  refine ⟨fun H => ⟨(rlRN x.f).refl H, id⟩, fun a b => ⟨(rlRN x.f).trans a.1 b.1, fun h => b.2 (a.2 h)⟩, fun e => ⟨(rlRN x.f).ex e, fun ⟨h1, h2, a, l, n, h3⟩ => ⟨rlEx.sqL e h1, h2, a, l, n, e _ _ h3⟩⟩, fun r h d => (rlRN x.f).keep r.1 h d, fun {a b p o} r h => ⟨(rlRN x.f).mt r.1 h, fun hf => ?_⟩⟩
  have r' : RN x.f a (upd b p o) := (rlRN x.f).mt r.1 h
  obtain ⟨_, h2, A, l, n, h3⟩ := r.2 hf
  obtain ⟨h1, _, A0, l0, n0, h0⟩ := hf
  exact ⟨(rlRN x.f).sqL r' h1, h2, A, l, n, by rw [upd_ne (ne_of_none h0 h)]; exact h3⟩
def Hf (K : Fg) (x : FdX) : Pv := fun v H => v = .ref x.f ∧ FdAt K x H
theorem mo_f {K : Fg} {x : FdX} : Mo (RF K x) (Hf K x) := fun _ _ _ r ⟨e, h⟩ => ⟨e, r.2 h⟩
/-! ### values told by a property -/
def HE (K : Fg) (p : PyData → Prop) : Pv := fun v H => ∃ d, p d ∧ Dp K H v d
theorem mo_he {R : Rel} (r : Rl R) {K : Fg} {p : PyData → Prop} : Mo R (HE K p) := fun _ _ _ x ⟨d, h, q⟩ => ⟨d, h, r.dp x q⟩
/-- a test told by a property -/
def tTN (R : Rel) (σ0 : St) (H0 : Hp) (β : Bool → Prop) : TT := fun σ H Q => σ = σ0 ∧ R H0 H ∧ ∀ b H', β b → R H H' → Q b H'
section
variable {X : Cx} {R : Rel} {σ : St} {H : Hp} {e a b : Expr} {es : List Expr} {p pos : Pos} {φ ψ χ : Pv} {nm : Str} {j k : Nat}
/-- a slot's value by any relation -/
theorem vr {x : Str} {v : V} (i : Nat) (r : Rl R) (m : Mo R φ) (h : φ v H) (hs : σ[i]? = some (some v) := by rfl) (hN : X.N[i]? = some x := by rfl) (vis : Vis X.env.scope x := by first | exact .inl rfl | exact .inr (.inl rfl) | exact .inr (.inr rfl))
    (hd : (x == ("__debug__" : Str)) = false := by decide) (hcd : (x == ("__classdict__" : Str)) = false := by decide) : PE X (.Name x pos) (tG R σ H φ) := de_var (i := i) r hs m h hN vis hd hcd
theorem vrm {x : Str} {v : V} {H0 : Hp} (i : Nat) (r : Rl R) (m : Mo R φ) (h : φ v H0) (e : R H0 H) (hs : σ[i]? = some (some v) := by rfl) (hN : X.N[i]? = some x := by rfl) (vis : Vis X.env.scope x := by first | exact .inl rfl | exact .inr (.inl rfl) | exact .inr (.inr rfl))
    (hd : (x == ("__debug__" : Str)) = false := by decide) (hcd : (x == ("__classdict__" : Str)) = false := by decide) : PE X (.Name x pos) (tG R σ H φ) := vr i r m (m _ _ _ e h) hs hN vis hd hcd
/-- a call of a def of the module, by any relation -/
theorem cR {τ : Type} {R' : τ → Rel} {Pre : τ → Prop} {A : τ → List Pv} {B : τ → Pv} {P : Program} {w : World} {K : Fg} {mg : Str → Option Value} {base : Heap} (c : Fnc P w K mg base k nm (spT R' Pre A B)) (x : τ) (r : Rl R) (le : ∀ a b, R' x a b → R a b) (hr : Room j X.A) (pre : Pre x)
    (ha : PA X (e :: es) (tA R σ H (A x))) (hk : k ≤ j := by decide) (hg : Gl X nm := by rfl) (hdb : (nm == ("__debug__" : Str)) = false := by decide) (he : starEach (e :: es) X.env = (false, eval e X.env) :: starEach es X.env := by rfl) (hpl : (backTo pos (starEach es X.env)).any (·.1) = false := by rfl)
    (hP : X.prog = P := by rfl) (hw : X.w = w := by rfl) (hK : X.K = K := by rfl) (hm : X.mg = mg := by rfl) (hb : X.base = base := by rfl) : PE X (.Call (.Name nm p) (e :: es) [] pos) (tG R σ H (B x)) := by
  subst hP hw hK hm hb
  exact de_call c x r hr hk pre le hg ha hdb he hpl
theorem dtN_of {c : Bool} {β : Bool → Prop} (h : PT X e (tT R σ H c)) (b : β c) : PT X e (fun σ' H' Q => σ' = σ ∧ R H H' ∧ ∀ H2, R H' H2 → Q c H2) := h
theorem dts_nilN {β : Bool → Prop} (r : Rl R) (e : ∀ b, b = true → β b) : PTs X [] (tTN R σ H fun b => b = true) := PTs.imp (dts_nil (σ := σ) (H := H) r rfl) fun _ _ _ ⟨e1, h1, k⟩ => ⟨e1, h1, fun H2 h2 => k true H2 rfl h2⟩
theorem dts_oneN {c : Expr} {β : Bool → Prop} (h : PT X c (tTN R σ H β)) : PTs X [c] (tTN R σ H β) :=
  pts_one h
/-- a comparison whose sides are told by properties -/
theorem dt_cmpN {op : CmpOp} {f : R2} {β : Bool → Prop} (r : Rl R) (o : OpR X (compareOp op) f) (ha : PE X a (tG R σ H φ)) (m : Mo R φ) (hb : PE X b (tG R σ H ψ)) (hm : behindInMarks op b = false)
    (i : ∀ x y H2, R H H2 → φ x H2 → ψ y H2 → ∀ Q : VK, (∀ c H', β c → R H2 H' → Q (.bl c) H') → f x y H2 Q) : PT X (.Compare a [op] [b] pos) (tTN R σ H β) :=
  PT.imp (pt_cmpR o ha hb hm) fun _ _ _ ⟨e1, h1, k⟩ => ⟨e1, h1, fun v H2 h2 p => ⟨e1, r.trans h1 h2, fun u H3 h3 q => i v u H3 (r.trans (r.trans h1 h2) h3) (m v H2 H3 h3 p) q _ fun c H4 hb h4 => ⟨c, rfl, k c H4 hb (r.trans (r.trans h2 h3) h4)⟩⟩⟩
theorem de_ifN {t : Expr} {β : Bool → Prop} (r : Rl R) (h : PT X t (tTN R σ H β)) (ha : PE X a (tG R σ H φ)) (hb : PE X b (tG R σ H φ)) : PE X (.IfExp t a b pos) (tG R σ H φ) :=
  PE.imp (pe_ifExp h ha hb) fun _ _ _ ⟨e1, h1, k⟩ => ⟨e1, h1, fun c H2 _ h2 => by
    cases c with
    | true => exact ⟨e1, r.trans h1 h2, fun v H3 h3 => k v H3 (r.trans h2 h3)⟩
    | false => exact ⟨e1, r.trans h1 h2, fun v H3 h3 => k v H3 (r.trans h2 h3)⟩⟩
end
/-! ### comprehensions with choices -/
inductive Pick {α : Type} (β : α → Bool → Prop) (ε : α → PyData → Prop) : List α → List PyData → Prop
  | nil : Pick β ε [] []
  | keep {s l d ds} : β s true → ε s d → Pick β ε l ds → Pick β ε (s :: l) (d :: ds)
  | skip {s l ds} : β s false → Pick β ε l ds → Pick β ε (s :: l) ds
section
variable {α : Type} {β : α → Bool → Prop} {ε : α → PyData → Prop}
theorem Pick.app : ∀ {l m : List α} {ds es : List PyData}, Pick β ε l ds → Pick β ε m es → Pick β ε (l ++ m) (ds ++ es)
  | _, _, _, _, .nil, h => h
  | _, _, _, _, .keep a b t, h => .keep a b (t.app h)
  | _, _, _, _, .skip a t, h => .skip a (t.app h)
theorem Pick.len : ∀ {l : List α} {ds : List PyData}, Pick β ε l ds → ds.length ≤ l.length
  | _, _, .nil => Nat.le_refl _
  | _, _, .keep _ _ t => by have := t.len; simp only [List.length_cons]; omega
  | _, _, .skip _ t => by have := t.len; simp only [List.length_cons]; omega
theorem Pick.all {p : PyData → Prop} (h : ∀ s d, ε s d → p d) : ∀ {l : List α} {ds : List PyData}, Pick β ε l ds → ∀ d ∈ ds, p d
  | _, _, .nil, d, m => by cases m
  | _, _, .keep _ b t, d, m => by
    rcases List.mem_cons.mp m with e | m
    · subst e; exact h _ _ b
    · exact Pick.all h t d m
  | _, _, .skip _ t, d, m => Pick.all h t d m
end
section
variable {α γ : Type} {β : α → Bool → Prop} {F : α → γ → PyData} {G : α → γ → Prop}
/-- items of a kind -/
abbrev Ty (F : α → γ → PyData) (G : α → γ → Prop) : α → PyData → Prop := fun s d => ∃ y, d = F s y ∧ G s y
theorem Pick.pairs : ∀ {l : List α} {ds : List PyData}, Pick β (Ty F G) l ds → ∃ zs : List (α × γ), (zs.map (·.1)).Sublist l ∧ ds = zs.map (fun z => F z.1 z.2) ∧ ∀ z ∈ zs, G z.1 z.2
  | _, _, .nil => ⟨[], .slnil, rfl, fun _ h => by cases h⟩
  | _, _, .keep (s := s) _ ⟨y, h0, b⟩ t => by
    obtain ⟨zs, h1, h2, h3⟩ := t.pairs
    exact ⟨(s, y) :: zs, h1.cons₂ _, by rw [h0, h2]; rfl, fun z hz => (List.mem_cons.mp hz).elim (fun e => by subst e; exact b) (h3 z)⟩
  | _, _, .skip _ t => by
    obtain ⟨zs, h1, h2, h3⟩ := t.pairs
    exact ⟨zs, h1.cons _, h2, h3⟩
theorem Pick.full (nf : ∀ s, ¬ β s false) : ∀ {l : List α} {ds : List PyData}, Pick β (Ty F G) l ds → ∃ zs : List (α × γ), zs.map (·.1) = l ∧ ds = zs.map (fun z => F z.1 z.2) ∧ ∀ z ∈ zs, G z.1 z.2
  | _, _, .nil => ⟨[], rfl, rfl, fun _ h => by cases h⟩
  | _, _, .keep (s := s) _ ⟨y, h0, b⟩ t => by
    obtain ⟨zs, h1, h2, h3⟩ := t.full nf
    exact ⟨(s, y) :: zs, by rw [List.map_cons, h1], by rw [h0, h2]; rfl, fun z hz => (List.mem_cons.mp hz).elim (fun e => by subst e; exact b) (h3 z)⟩
  | _, _, .skip a _ => absurd a (nf _)
end
section
variable {X : Cx} {R : Rel} {σ : St} {H : Hp} {D : Ends} {e : Expr} {rest body : List Stmt} {p pos : Pos}
def LcTurnN (X : Cx) (R : Rel) (H : Hp) (σ : St) {α : Type} (src : List α) (ι : α → Pv) (β : α → Bool → Prop) (ε : α → PyData → Prop) (elt : Expr) (ifs : List Expr) (scope : Scope) (vs : List Nat) (g : TG) : Prop :=
  ∀ s x H', s ∈ src → R H H' → ι s x H' → g x (wipe σ vs) H' fun σ2 H2 => wipe σ2 vs = wipe σ vs ∧ R H' H2 ∧ (Blk X scope fun Y => PTs Y ifs (tTN R σ2 H2 (β s))) ∧ (∀ H3, R H2 H3 → Blk X scope fun Y => PE Y elt (tG R σ2 H3 (HE X.K (ε s))))
def OLE (K : Fg) (q : List PyData → Prop) : Pv := fun v H => ∃ ds, q ds ∧ OL K ds v H
theorem lc_goN {α : Type} {src : List α} {ι : α → Pv} {β : α → Bool → Prop} {ε : α → PyData → Prop} {elt : Expr} {ifs : List Expr} {scope : Scope} {vs : List Nat} {g : TG} {H1 : Hp} {Q : VK} {wi : TI} (r : Rl R)
    (q : ∀ H1, R H H1 → ∀ Rr : It → Hp → Prop, (∀ (J : It) (H2 : Hp) (G : Hp → Prop) (Y : Nat → Hp → V → Hp → Prop), R H1 H2 → Walk J src.length G Y → G H2 → (∀ H3 H4, R H3 H4 → G H3 → G H4) →
      (∀ i H3 x H4, R H2 H3 → G H3 → Y i H3 x H4 → Ex H3 H4 ∧ ∃ s, src[i]? = some s ∧ ι s x H4) → Rr J H2) → wi σ H1 Rr) (hz : src.length < sizeLine) (hn : ∀ s d, ε s d → nol d = true)
    (hs : LcTurnN X R H σ src ι β ε elt ifs scope vs g) (gm : GMo g) (h1 : R H H1) (k : ∀ v H2, R H1 H2 → OLE X.K (Pick β ε src) v H2 → Q v H2) :
    tLc wi g (fun σ H Q => ∀ s H0 C cl fp, PTs (X.blk s H0 scope (compEnvC scope cl C X.env) fp) ifs (tTQ σ H Q)) (fun σ H Q => ∀ s H0 C cl fp, PE (X.blk s H0 scope (compEnvC scope cl C X.env) fp) elt (tQ σ H Q)) vs σ H1 Q := by
  refine q H1 h1 _ fun J H2 G Y h2 W g2 gmo it => fun Dl hD => ?_
  refine lc_it (n := src.length) (g := g) (tt := fun σ H Q => ∀ s H0 C cl fp, PTs (X.blk s H0 scope (compEnvC scope cl C X.env) fp) ifs (tTQ σ H Q)) (te := fun σ H Q => ∀ s H0 C cl fp, PE (X.blk s H0 scope (compEnvC scope cl C X.env) fp) elt (tQ σ H Q)) (vs := vs) (σ := σ) (G := G) (Y := Y) W
    (fun i H' => ∃ acc ds, H' Dl = some (.lst acc) ∧ R H2 H' ∧ DpAll X.K H' acc ds ∧ Pick β ε (src.take i) ds) ⟨[], [], upd_same, r.ex (Ex.new hD), .nil, .nil⟩ (fun i H' _ ⟨_, _, _, x, _⟩ => gmo _ _ x g2) (fun i x H3 H4 hi ⟨acc, ds, ha, hr, hd, pk⟩ y => ?_) fun H' ⟨acc, ds, ha, hr, hd, pk⟩ => k _ H' (r.trans h2 hr) ⟨ds, by rw [List.take_length] at pk; exact pk, Dl, acc, rfl, ha, hd⟩
  obtain ⟨ex, s, hs', is⟩ := it i H3 x H4 hr (gmo _ _ hr g2) y
  have hm : s ∈ src := List.mem_of_getElem? hs'
  have r4 : R H2 H4 := r.trans hr (r.ex ex)
  refine gm _ _ _ _ _ (fun σ2 H5 z => ?_) (hs s x H4 hm (r.trans (r.trans h1 h2) r4) is)
  obtain ⟨w1, r5, pt, pe⟩ := z
  refine ⟨w1, fun s0 H0 C cl fp => PTs.imp (pt s0 H0 C cl fp) fun σ' H' Q' ⟨e1, e2, e3⟩ => ?_⟩
  subst e1 e2 e3
  refine ⟨rfl, r.refl _, fun b H6 hb r6 => ?_⟩
  have htake : src.take (i + 1) = src.take i ++ [s] := by
    rw [List.take_succ, hs']; rfl
  have d6 : H6 Dl = some (.lst acc) := r.keep (r.trans r5 r6) (ex _ _ ha) ⟨(fun _ z => by cases z), fun _ z => by cases z⟩
  have a6 : DpAll X.K H6 acc ds := r.dpAll (r.trans (r.trans (r.ex ex) r5) r6) hd
  cases b with
  | false =>
    show ∃ acc ds, _
    refine ⟨acc, ds, d6, r.trans (r.trans r4 r5) r6, a6, ?_⟩
    rw [htake]
    have := pk.app (.skip hb .nil)
    rwa [List.append_nil] at this
  | true =>
    refine fun s0 H0 C cl fp => PE.imp (pe H6 r6 s0 H0 C cl fp) fun σ' H' Q' ⟨e1, e2, e3⟩ => ?_
    subst e1 e2 e3
    refine ⟨rfl, r.refl _, fun v H7 r7 ⟨d, hd', p⟩ => ?_⟩
    have d7 : H7 Dl = some (.lst acc) := r.keep r7 d6 ⟨(fun _ z => by cases z), fun _ z => by cases z⟩
    have tu := tups_upd (o := .lst (acc ++ [v])) (no_tup d7 (fun _ z => by cases z) fun _ _ z => by cases z)
    refine ⟨acc, d7, ?_, acc ++ [v], ds ++ [d], upd_same, r.mt (r.trans (r.trans (r.trans r4 r5) r6) r7) hD, ?_, ?_⟩
    · rw [DpAll.length hd]
      have := pk.len
      rw [List.length_take] at this
      omega
    · refine DpAll.app (dp_nolAll tu (nolAll_iff.mpr (pk.all hn)) (r.dpAll r7 a6)) (.cons (dp_nol tu (hn s d hd') p) .nil)
    · rw [htake]
      exact pk.app (.keep hb hd' .nil)
/-- [elt for tg in iter if ..], with choices -/
theorem de_lcN {α : Type} {src : List α} {ι : α → Pv} {β : α → Bool → Prop} {ε : α → PyData → Prop} {elt tg iter : Expr} {ifs : List Expr} {scope : Scope} {own : List (Str × Nat)} {g : TG} (r : Rl R) (hc : X.calm = true) (hN : X.N.Nodup) (ok : BlkOk X.N X.env.scope scope own)
    (S : Src X R σ H tg iter src ι) (hz : src.length < sizeLine) (hn : ∀ s d, ε s d → nol d = true) (hg : Blk X scope fun Y => PG Y tg g) (gm : GMo g) (hs : LcTurnN X R H σ src ι β ε elt ifs scope (own.map (·.2)) g)
    (hf : ∀ x, foldedSetIterable iter X.env x = pure x := by intro _; rfl) : PE X (.ListComp elt [⟨tg, iter, ifs, 0⟩] scope pos) (tG R σ H (OLE X.K (Pick β ε src))) := by
  obtain ⟨wi, hi, q⟩ := S.ex
  exact de_of (pe_lc hc hN hi ok hg PTs.selfB PE.selfB hf) fun H1 h1 Q k => lc_goN r q hz hn hs gm h1 k
/-- y = [..] on one line, y a local, with choices -/
theorem bs_setLcN {α : Type} {src : List α} {ι : α → Pv} {β : α → Bool → Prop} {ε : α → PyData → Prop} {elt tg iter : Expr} {ifs : List Expr} {scope : Scope} {own : List (Str × Nat)} {g : TG} {i : Nat} {y : Str} {py spos : Pos} (r : Rl R) (hc : X.calm = true) (hN : X.N.Nodup) (hy : X.N[i]? = some y) (hyl : X.env.scope.names.lookup y = some .local)
    (hsw : swapsWith (.ListComp elt [⟨tg, iter, ifs, 0⟩] scope pos) (some (.Name y py)) spos.line X.env = pure true) (ok : BlkOk X.N X.env.scope scope own)
    (S : Src X R σ H tg iter src ι) (hz : src.length < sizeLine) (hn : ∀ s d, ε s d → nol d = true) (hg : Blk X scope fun Y => PG Y tg g) (gm : GMo g) (hs : LcTurnN X R H σ src ι β ε elt ifs scope (own.map (·.2)) g)
    (k : ∀ v H', R H H' → OLE X.K (Pick β ε src) v H' → PSs X rest (tAt (σ.set i (some v)) H' D)) (hf : ∀ x, foldedSetIterable iter X.env x = pure x := by intro _; rfl) :
    PSs X (.Assign [.Name y py] (.ListComp elt [⟨tg, iter, ifs, 0⟩] scope pos) spos :: rest) (tAt σ H D) := by
  obtain ⟨wi, hi, q⟩ := S.ex
  refine bs_seq (ps_setLc hc hN hy hyl hsw hi ok hg PTs.selfB PE.selfB hf) ?_
  exact lc_goN r q hz hn hs gm (r.refl _) fun v H2 h2 p => k v H2 h2 p
theorem ole_dp {K : Fg} {q : List PyData → Prop} {v : V} {H : Hp} (h : OLE K q v H) : ∃ ds, q ds ∧ Dp K H v (.list ds) := by
  obtain ⟨ds, h1, h2⟩ := h
  exact ⟨ds, h1, ol_dp h2⟩
/-- tuple(l), the list told by a property -/
theorem de_tupleN {q : List PyData → Prop} (r : Rl R) (hg : Gl X "tuple") (hm : X.mg "tuple" = none) (ha : PE X e (tG R σ H (OLE X.K q))) (he : starEach [e] X.env = (false, eval e X.env) :: starEach [] X.env := by rfl) :
    PE X (.Call (.Name "tuple" p) [e] [] pos) (tG R σ H (fun v H' => ∃ ds, q ds ∧ IsFz X.K ds v H')) :=
  de_ct r call_tupleFz hg hm (by decide +kernel) (da_cons r (fun _ _ _ x ⟨ds, h1, h2⟩ => ⟨ds, h1, mo_ol r _ _ _ x h2⟩) ha (da_nil r) he) (fun vs H1 _ qq Q k => by
    obtain ⟨v, rfl, ds, h1, l, xs, rfl, h3, h4⟩ := all1 qq
    exact ⟨l, xs, rfl, .inl (.inl h3), fun l' o hl ho => k _ _ (r.ex (Ex.new hl)) ⟨ds, h1, l', o, xs, rfl, upd_same, ho, rlEx.dpAll (Ex.new hl) h4⟩⟩) (he := he)
theorem fz_he {K : Fg} {q : List PyData → Prop} {v : V} {H : Hp} (h : ∃ ds, q ds ∧ IsFz K ds v H) : HE K (fun d => ∃ ds, q ds ∧ d = .tuple ds) v H := by
  obtain ⟨ds, h1, h2⟩ := h
  exact ⟨_, ⟨ds, h1, rfl⟩, fz_dp h2⟩
/-! ### a for over a tuple told by a property; range(n) -/
theorem bs_forTN {q : List PyData → Prop} {tg iter : Expr} {g : TG} (r : Rl R) (hp : PassesOwn (model X.prog X.w) X.A X.env X.xe) (hc : X.calm = true) (h : PE X iter (tG R σ H (fun v H' => ∃ ds, q ds ∧ Dp X.K H' v (.tuple ds)))) (hg : PG X tg g) (Iv : List PyData → List V → Hp → Nat → St → Hp → Prop)
    (h0 : ∀ ds a xs H2, q ds → R H H2 → SqT X.K H2 a xs → DpAll X.K H2 xs ds → Iv ds xs H2 0 σ H2) (hl : ∀ ds a xs H2 i σ' H', SqT X.K H2 a xs → i ≤ xs.length → Iv ds xs H2 i σ' H' → SqT X.K H' a xs)
    (hs : ∀ ds a xs H2 i x σ' H', q ds → R H H2 → SqT X.K H2 a xs → DpAll X.K H2 xs ds → xs[i]? = some x → Iv ds xs H2 i σ' H' → g x σ' H' fun σ2 H3 => PSs X body (tAt σ2 H3 { D with nx := Iv ds xs H2 (i + 1), ct := Iv ds xs H2 (i + 1), bk := fun σ' H' => PSs X rest (tAt σ' H' D) }))
    (hd : ∀ ds a xs H2 σ' H', q ds → R H H2 → SqT X.K H2 a xs → DpAll X.K H2 xs ds → Iv ds xs H2 ds.length σ' H' → PSs X rest (tAt σ' H' D)) (hf : ∀ x, foldedSetIterable iter X.env x = pure x := by intro _; rfl) : PSs X (.For tg iter body [] pos :: rest) (tAt σ H D) := by
  refine bs_seq (ps_for hp hc (pi_tup h) hg PSs.self hf) ⟨rfl, r.refl _, fun v H2 h2 ⟨ds, hq', q'⟩ => ?_⟩
  obtain ⟨a, xs, rfl, hq, hd'⟩ := dp_tup q'
  exact ⟨a, rfl, ⟨xs, hq⟩, for_tup (g := g) (tb := fun D σ H => PSs X body (tAt σ H D)) (D := { D with nx := fun σ' H' => PSs X rest (tAt σ' H' D) }) (Iv ds xs H2) (h0 ds a xs H2 hq' h2 hq hd') (fun i σ' H' hi iv => hl ds a xs H2 i σ' H' hq hi iv) (fun i x σ' H' hx iv => hs ds a xs H2 i x σ' H' hq' h2 hq hd' hx iv) fun σ' H' iv => hd ds a xs H2 σ' H' hq' h2 hq hd' (by rw [← DpAll.length hd']; exact iv)⟩
/-- a tuple of anything -/
theorem de_tupE {es : List Expr} {φs : List Pv} {x1} (r : Rl R) (ha : PA X es (tA R σ H φs)) (z : ∀ vs H', All2 φs vs H' → vs.length ≤ sizeLine) (m : ∀ vs H' H'', Ex H' H'' → All2 φs vs H' → All2 φs vs H'') : PE X (.Tuple es x1 pos) (tG R σ H (fun v H' => ∃ q vs, v = .ref q ∧ H' q = some (.tup vs) ∧ All2 φs vs H')) :=
  PE.imp (pe_tup ha) fun _ _ _ ⟨e1, h1, k⟩ => ⟨e1, h1, fun vs H2 h2 q => ⟨z vs H2 q, fun t ht => k _ _ (r.trans h2 (r.ex (Ex.new ht))) ⟨t, vs, rfl, upd_same, m _ _ _ (Ex.new ht) q⟩⟩⟩
/-- a slice's end told by a property -/
def tPN (R : Rel) (σ0 : St) (H0 : Hp) (p : Int → Prop) : TO := fun σ H Q => σ = σ0 ∧ R H0 H ∧ ∀ i H', p i → R H H' → Q (some i) H'
abbrev HI (K : Fg) (p : Int → Prop) : Pv := HE K fun d => ∃ i, p i ∧ d = .int i
theorem hi_of {K : Fg} {p : Int → Prop} {v : V} {H : Hp} (h : HI K p v H) : ∃ i, p i ∧ v = .int i := by
  obtain ⟨_, ⟨i, h1, rfl⟩, h2⟩ := h
  exact ⟨i, h1, dp_int h2⟩
theorem dpo_someN {q : Int → Prop} (h : PE X e (tG R σ H (HI X.K q))) : PO X (some e) (tPN R σ H q) := PO.imp (po_some h) fun _ _ _ ⟨e1, h1, k⟩ => ⟨e1, h1, fun v H2 h2 z => by
  obtain ⟨i, h3, rfl⟩ := hi_of z
  exact ⟨i, rfl, k i H2 h3 h2⟩⟩
theorem de_slLN {a : Expr} {q : Int → Prop} {p2 : Pos} {ds : List PyData} {lo hi : Option Expr} {l : Option Int} (r : Rl R) (ha : PE X a (tG R σ H (Hd X.K (.list ds)))) (hl : PO X lo (tP R σ H l)) (hh : PO X hi (tPN R σ H q)) : PE X (.Subscript a (.Slice lo hi none p2) pos) (tG R σ H (HE X.K fun d => ∃ i, q i ∧ d = .list (cutD ds l (some i)))) :=
  PE.imp (pe_slice sl_list ha hl hh) fun _ _ _ ⟨e1, h1, k⟩ => ⟨e1, h1, fun v H2 h2 z => ⟨e1, r.trans h1 h2, fun H3 h3 => ⟨e1, r.trans (r.trans h1 h2) h3, fun i H4 hi h4 => by
    obtain ⟨t, xs, rfl, hq, hd⟩ := dp_lst z
    refine ⟨t, xs, rfl, r.sqL (r.trans h3 h4) hq, fun z hz => k _ _ (r.trans (r.trans (r.trans h2 h3) h4) (r.ex (Ex.new hz))) ⟨_, ⟨i, hi, rfl⟩, .lst (.inl (.inl upd_same)) (r.dpAll (r.ex (Ex.new hz)) (DpAll.cut (r.dpAll (r.trans h3 h4) hd)))⟩⟩⟩⟩⟩
/-- range(n) -/
theorem src_range {n : Nat} {tg : Expr} (r : Rl R) (hg : Gl X "range") (hm : X.mg "range" = none) (hn : n < 1000000) (h : PE X e (tG R σ H (Hd X.K (.int (n : Int))))) (hs : starEach [e] X.env = (false, eval e X.env) :: starEach [] X.env := by rfl) :
    Src X R σ H tg (.Call (.Name "range" p) [e] [] pos) (List.range n) (fun i => Hd X.K (.int (i : Int))) :=
  ⟨_, pi_range1 hg hm (da_cons r (mo_d r) h (da_nil r) hs) hs, fun H1 h1 Rr k => ⟨rfl, h1, fun vs H2 h2 p => by
    obtain ⟨v, rfl, hv⟩ := all1 p
    obtain rfl := dp_int hv
    refine ⟨(n : Int), rfl, by omega, by omega, k _ H2 (fun _ => True) (fun i H x H' => YFn (fun i => .int (0 + (i : Int))) i H x H' ∧ i < n) h2 (by rw [List.length_range]; exact walk_range.mono (fun _ x => x) fun i H x H' hi _ y => ⟨y, hi⟩) True.intro (fun _ _ _ _ => True.intro) fun i H3 x H4 h3 _ y => ?_⟩
    obtain ⟨⟨rfl, rfl⟩, hi⟩ := y
    exact ⟨Ex.rfl' _, i, by simp [hi], by show Dp X.K H4 (.int (0 + (i : Int))) _; rw [Int.zero_add]; exact .int _⟩⟩⟩
end
end Lf
set_option maxHeartbeats 4000000
/-! Fd2: the law's feed, a draw, one of some. -/
namespace Lf
open PySem PySem.Spec L2
open PyProof.Rows hiding St wpAt wpAt_bind wpAt_mono
section
variable {P : Program} {w : World} {K : Fg} {mg : Str → Option Value} {base : Heap}
abbrev spFeed (K : Fg) : Sp := spT (fun _ => Ex) (fun ns : List Int => ns.length ≤ 63) (fun ns => [Hd K (.list (ns.map PyData.int))]) (fun ns v H' => ∃ x : FdX, x.cs = ns ∧ Hf K x v H')
theorem cut63 {α : Type} (l : List α) (h : l.length ≤ 63) : (l.drop (HT.sIx l.length 0 none)).take (HT.sIx l.length l.length (some 63) - HT.sIx l.length 0 none) = l := by
  have e1 : HT.sIx l.length 0 none = 0 := rfl
  have e2 : HT.sIx l.length l.length (some 63) = l.length := by
    unfold HT.sIx
    simp
    omega
  rw [e1, e2, List.drop_zero, Nat.sub_zero, List.take_length]
theorem f_law_feed (T : Tx K mg) : Fnc P w K mg base 1 "_law_feed" (spFeed K) := by
  refine ⟨T.g_law_feed, fna_of T.d_law_feed sc_law_feed bn_law_feed (fun _ => rfl) fun cdv A0 outer s H E x vs Q hr ok ha hQ => ?_⟩
  obtain ⟨v, rfl, h1⟩ := all1 ha
  have ok : x.length ≤ 63 := ok
  refine bs_ret (φ := fun v H' => ∃ y : FdX, y.cs = x ∧ Hf K y v H') (de_of (pe_disp (pps_cons pe_str (PE.any fun q : {H1 : Hp // Ex H H1} => de_listL (σ := start ["_law_script"] [v]) (H := q.1) rlEx rfl T.z_list (de_slL (l := none) (h := some 63) rlEx (vdm 0 h1 q.2) (dpo_none rlEx) (dpo_some (de_int rlEx)))) (pps_cons pe_str pe_int (pps_cons pe_str pe_int (pps_cons pe_str pe_int pps_nil)))) (by rfl) (by rfl) (fun z => by cases z) (by decide)) fun H1 e1 Q k => fun p hp => ?_) rlEx fun v' H4 e4 q => hQ v' H4 e4 q
  refine ⟨⟨_, e1.tr (Ex.new hp)⟩, rfl, Ex.rfl' _, fun v2 H2 e2 hv => ?_⟩
  obtain ⟨c, xs, rfl, hc, hd⟩ := dp_lst hv
  have e : cutD (x.map PyData.int) none (some 63) = x.map PyData.int := cut63 _ (by rw [List.length_map]; exact ok)
  rw [e] at hd
  obtain rfl := dp_ints_eq hd
  refine ⟨e2 _ _ upd_same, [(.inr "cells", .ref c), (.inr "at", .int 0), (.inr "left", .int 0), (.inr "count", .int 0)], rfl, by show 4 ≤ 15; decide, ?_⟩
  have hp1 : H1 p = none := hp
  have ex : Ex H1 (upd H2 p (fdD ⟨p, c, x⟩ 0 0 0)) := Ex.mut ((Ex.new hp).tr e2) hp
  have hpc : p ≠ c ∨ True := .inr trivial
  have sq : SqL K (upd H2 p (fdD ⟨p, c, x⟩ 0 0 0)) c (x.map V.int) := by
    rcases hc with (h | ⟨o, h⟩) | h
    · refine .inl (.inl ?_)
      rw [upd_ne (fun e => by subst e; rw [e2 _ _ upd_same] at h; cases h)]
      exact h
    · refine .inl (.inr ⟨o, ?_⟩)
      rw [upd_ne (fun e => by subst e; rw [e2 _ _ upd_same] at h; cases h)]
      exact h
    · exact .inr h
  exact k _ _ ex ⟨⟨p, c, x⟩, rfl, rfl, sq, ok, 0, 0, 0, upd_same⟩
/-! ### a draw -/
structure DwX where
  x : FdX
  m : Int
abbrev spDraw (K : Fg) : Sp := spT (fun y : DwX => RF K y.x) (fun y => 0 < y.m ∧ y.m < 100000) (fun y => [Hf K y.x, Hd K (.int y.m)]) (fun y => HI K fun i => 0 ≤ i ∧ i < y.m)
theorem dwok {x : FdX} {m : Int} (h1 : 0 < m) (h2 : m < 100000) : 0 < (DwX.mk x m).m ∧ (DwX.mk x m).m < 100000 := ⟨h1, h2⟩
theorem fd_rn {K : Fg} {x : FdX} {H : Hp} {a l n a' l' n' : Int} (h : H x.f = some (fdD x a l n)) : RF K x H (upd H x.f (fdD x a' l' n')) := by
  have r : RN x.f H (upd H x.f (fdD x a' l' n')) := rn_updK h
  exact ⟨r, fun ⟨h1, h2, _⟩ => ⟨(rlRN x.f).sqL r h1, h2, a', l', n', upd_same⟩⟩
/-- the feed's entry at a word -/
theorem fd_get {X : Cx} {σ : St} {H : Hp} {x : FdX} {j : Nat} {pos p p2 : Pos} {kn : Nat} {nm key : Str} {v : V} {a l n : Int} (i : Nat) (hr : Room j X.A) (h : H x.f = some (fdD x a l n)) (hv : valV [((.inr "cells" : Key), V.ref x.c), (.inr "at", .int a), (.inr "left", .int l), (.inr "count", .int n)] (.inr key) = some v)
    (hs : σ[i]? = some (some (.ref x.f)) := by rfl) (hN : X.N[i]? = some nm := by rfl) (vis : Vis X.env.scope nm := by first | exact .inl rfl | exact .inr (.inl rfl) | exact .inr (.inr rfl))
    (hd : (nm == ("__debug__" : Str)) = false := by decide) (hcd : (nm == ("__classdict__" : Str)) = false := by decide) :
    PE X (.Subscript (.Name nm p) (.Constant (.str key) kn p2) pos) (tG Ex σ H (Hv v)) :=
  de_getR (y := .inr key) hr (vv i hs hN vis hd hcd) h (de_imp (φ := Hd X.K (.str key)) (de_str rlEx) (fun v' _ _ q => dp_str q) rlEx) hv
theorem hv_d {X : Cx} {R : Rel} {σ : St} {H : Hp} {e : Expr} {i : Int} (h : PE X e (tG R σ H (Hv (.int i)))) (r : Rl R) : PE X e (tG R σ H (Hd X.K (.int i))) := de_imp h (fun v _ _ q => by cases q; exact .int i) r
theorem dpAll_of_ints {K : Fg} {H : Hp} : ∀ cs : List Int, DpAll K H (cs.map V.int) (cs.map PyData.int)
  | [] => .nil
  | i :: r => .cons (.int i) (dpAll_of_ints r)
theorem shn_ints (cs : List Int) : SeqAt.shaped (.list (cs.map PyData.int)) = true := (shn_lst (n := 0) fun d hd => by
    obtain ⟨i, _, rfl⟩ := List.mem_map.mp hd
    exact shn_int).sh
theorem mod_in {a m : Int} (h : 0 < m) : 0 ≤ a % m ∧ a % m < m := ⟨Int.emod_nonneg _ (by omega), Int.emod_lt_of_pos _ h⟩
theorem f_law_draw (T : Tx K mg) : Fnc P w K mg base 1 "_law_draw" (spDraw K) := by
  refine ⟨T.g_law_draw, fna_of T.d_law_draw sc_law_draw bn_law_draw (fun _ => rfl) fun cdv A0 outer s H E y vs Q hr ok ha hQ => ?_⟩
  obtain ⟨x, m⟩ := y
  obtain ⟨v, u, rfl, ⟨rfl, hf⟩, h2⟩ := all2 ha
  obtain rfl := dp_int h2
  obtain ⟨m1, m2⟩ := ok
  have m1 : 0 < m := m1
  have m2 : m < 100000 := m2
  have hf0 := hf
  obtain ⟨hc, lc, a, l, n, hfd⟩ := hf
  have hfd : H x.f = some (fdD x a l n) := hfd
  have big : (4 : Nat) < sizeLine := by decide
  -- the way out
  have out : ∀ {H' : Hp} {i : Int}, RF K x H H' → 0 ≤ i → i < m → Q (.int i) H' := fun r h1 h3 => hQ _ _ r ⟨.int _, ⟨_, ⟨h1, h3⟩, rfl⟩, .int _⟩
  refine bs_dput hr (φ := Hd K (.int (n + 1))) (ψ := Hv (.str "count")) (de_opI0 rlEx op_add (hv_d (fd_get 0 hr hfd rfl) rlEx) (de_int rlEx)) (mo_d rlEx) (vv 0) (de_imp (φ := Hd K (.str "count")) (de_str rlEx) (fun v' _ _ q => dp_str q) rlEx) fun v' y' H1 e1 hv hy => ?_
  obtain rfl := dp_int hv
  obtain rfl : y' = .str "count" := hy
  have g1 := e1 _ _ hfd
  refine ⟨_, DPut.k (k := .inr "count") g1 big, ?_⟩
  have ep : putK [((.inr "cells" : Key), V.ref x.c), (.inr "at", .int a), (.inr "left", .int l), (.inr "count", .int n)] (.inr "count") (.int (n + 1)) = [((.inr "cells" : Key), V.ref x.c), (.inr "at", .int a), (.inr "left", .int l), (.inr "count", .int (n + 1))] := rfl
  rw [ep]
  have r1 : RF K x H (upd H1 x.f (fdD x a l (n + 1))) := (rlRF K x).trans ((rlRF K x).ex e1) (fd_rn g1)
  have hf1 := r1.2 hf0
  generalize hH2 : upd H1 x.f (fdD x a l (n + 1)) = H2 at r1 hf1 ⊢
  have g2 : H2 x.f = some (fdD x a l (n + 1)) := by rw [← hH2]; exact upd_same
  have hc2 : SqL K H2 x.c (x.cs.map V.int) := hf1.1
  have dc : ∀ {H3 : Hp}, Ex H2 H3 → Dp K H3 (.ref x.c) (.list (x.cs.map PyData.int)) := fun e => .lst (rlEx.sqL e hc2) (dpAll_of_ints x.cs)
  have cells : ∀ {H3 : Hp} {σ' : St} {pos p p2 : Pos} {kn : Nat}, Ex H2 H3 → σ'[0]? = some (some (V.ref x.f)) → PE (CxB P w K mg base ["_law_feed_here", "_law_many", "_law_digit", "_law_at", "_law_cell", "_law_mixed"] "_law_draw" (defScope s_law_draw) (He.ga K "_law_draw") cdv A0 outer s H E) (.Subscript (.Name "_law_feed_here" p) (.Constant (.str "cells") kn p2) pos) (tG Ex σ' H3 (Hd K (.list (x.cs.map PyData.int)))) :=
    fun e hs => de_imp (fd_get 0 hr (e _ _ g2) rfl hs) (fun v H4 e4 q => by obtain rfl : v = .ref x.c := q; exact dc (e.tr e4)) rlEx
  refine bs_when (t := PyData.eqv (.list (x.cs.map PyData.int)) (.list [])) rlEx (dt_eqD rlEx hr (cells (Ex.rfl' _) rfl) (de_lst rlEx (dd_nil rlEx)) (shn_ints x.cs) (shn_ints [])) (fun _ H3 e3 => ?_) (fun hne H3 e3 => ?_)
  · refine bs_ret (φ := Hd K (.int ((n + 1) % m))) (de_opI rlEx op_mod (de_int1 rlEx rfl T.z_int (hv_d (fd_get 0 hr (e3 _ _ g2) rfl) rlEx)) (vd 1 (.int _)) m1) rlEx fun v4 H4 e4 q => ?_
    obtain rfl := dp_int q
    exact out ((rlRF K x).trans r1 ((rlRF K x).ex (e3.tr e4))) (mod_in m1).1 (mod_in m1).2
  have g3 := e3 _ _ g2
  refine bs_when (t := decide (l > 0)) rlEx (dt_cmpI (g := fun i j => decide (i > j)) rlEx op_gt (hv_d (fd_get 0 hr g3 rfl) rlEx) (de_int rlEx)) (fun _ H4 e4 => ?_) (fun _ H4 e4 => ?_)
  · have g4 := e4 _ _ g3
    refine bs_set (i := 2) (φ := Hd K (.int (l % m))) rlEx sc_law_draw.nd rfl (.inl rfl) (de_opI rlEx op_mod (de_int1 rlEx rfl T.z_int (hv_d (fd_get 0 hr g4 rfl) rlEx)) (vd 1 (.int _)) m1) fun v5 H5 e5 q5 => ?_
    obtain rfl := dp_int q5
    have g5 := e5 _ _ g4
    refine bs_dput hr (φ := Hd K (.int (l / m))) (ψ := Hv (.str "left")) (de_opI rlEx op_fdiv (hv_d (fd_get 0 hr g5 rfl) rlEx) (vd 1 (.int _)) ⟨m1, by omega⟩) (mo_d rlEx) (vv 0) (de_imp (φ := Hd K (.str "left")) (de_str rlEx) (fun v' _ _ q => dp_str q) rlEx) fun v' y' H6 e6 hv hy => ?_
    obtain rfl := dp_int hv
    obtain rfl : y' = .str "left" := hy
    have g6 := e6 _ _ g5
    refine ⟨_, DPut.k (k := .inr "left") g6 big, ?_⟩
    have ep : putK [((.inr "cells" : Key), V.ref x.c), (.inr "at", .int a), (.inr "left", .int l), (.inr "count", .int (n + 1))] (.inr "left") (.int (l / m)) = [((.inr "cells" : Key), V.ref x.c), (.inr "at", .int a), (.inr "left", .int (l / m)), (.inr "count", .int (n + 1))] := rfl
    rw [ep]
    have r6 : RF K x H (upd H6 x.f (fdD x a (l / m) (n + 1))) := (rlRF K x).trans r1 ((rlRF K x).trans ((rlRF K x).ex (((e3.tr e4).tr e5).tr e6)) (fd_rn g6))
    refine bs_ret (φ := Hd K (.int (l % m))) (vd 2 (.int _)) rlEx fun v7 H7 e7 q => ?_
    obtain rfl := dp_int q
    exact out ((rlRF K x).trans r6 ((rlRF K x).ex e7)) (mod_in m1).1 (mod_in m1).2
  have g4 := e4 _ _ g3
  have e24 := e3.tr e4
  have ncs : 0 < x.cs.length := by
    cases hx : x.cs with
    | nil => rw [hx] at hne; cases hne
    | cons _ _ => simp
  refine bs_set (i := 3) (φ := Hv (.int a)) rlEx sc_law_draw.nd rfl (.inl rfl) (fd_get 0 hr g4 rfl) fun v5 H5 e5 q5 => ?_
  obtain rfl : v5 = .int a := q5
  have g5 := e5 _ _ g4
  refine bs_dput hr (φ := Hd K (.int (a + 1))) (ψ := Hv (.str "at")) (de_opI0 rlEx op_add (vd 3 (.int _)) (de_int rlEx)) (mo_d rlEx) (vv 0) (de_imp (φ := Hd K (.str "at")) (de_str rlEx) (fun v' _ _ q => dp_str q) rlEx) fun v' y' H6 e6 hv hy => ?_
  obtain rfl := dp_int hv
  obtain rfl : y' = .str "at" := hy
  have g6 := e6 _ _ g5
  refine ⟨_, DPut.k (k := .inr "at") g6 big, ?_⟩
  have ep : putK [((.inr "cells" : Key), V.ref x.c), (.inr "at", .int a), (.inr "left", .int l), (.inr "count", .int (n + 1))] (.inr "at") (.int (a + 1)) = [((.inr "cells" : Key), V.ref x.c), (.inr "at", .int (a + 1)), (.inr "left", .int l), (.inr "count", .int (n + 1))] := rfl
  rw [ep]
  have r6 : RF K x H (upd H6 x.f (fdD x (a + 1) l (n + 1))) := (rlRF K x).trans r1 ((rlRF K x).trans ((rlRF K x).ex ((e24.tr e5).tr e6)) (fd_rn g6))
  have hf6 := r6.2 hf0
  generalize hH7 : upd H6 x.f (fdD x (a + 1) l (n + 1)) = H7 at r6 hf6 ⊢
  have g7 : H7 x.f = some (fdD x (a + 1) l (n + 1)) := by rw [← hH7]; exact upd_same
  have hc7 : SqL K H7 x.c (x.cs.map V.int) := hf6.1
  have cells7 : ∀ {H3 : Hp} {σ' : St} {pos p p2 : Pos} {kn : Nat}, Ex H7 H3 → σ'[0]? = some (some (V.ref x.f)) → PE (CxB P w K mg base ["_law_feed_here", "_law_many", "_law_digit", "_law_at", "_law_cell", "_law_mixed"] "_law_draw" (defScope s_law_draw) (He.ga K "_law_draw") cdv A0 outer s H E) (.Subscript (.Name "_law_feed_here" p) (.Constant (.str "cells") kn p2) pos) (tG Ex σ' H3 (Hd K (.list (x.cs.map PyData.int)))) :=
    fun e hs => de_imp (fd_get 0 hr (e _ _ g7) rfl hs) (fun v H4 e4 q => by obtain rfl : v = .ref x.c := q; exact .lst (rlEx.sqL (e.tr e4) hc7) (dpAll_of_ints x.cs)) rlEx
  have lp : (0 : Int) < (((x.cs.map PyData.int).length : Nat) : Int) := by rw [List.length_map]; omega
  have am := mod_in (a := a) lp
  obtain ⟨z, hz⟩ : ∃ z : Int, atI (x.cs.map PyData.int) (a % (((x.cs.map PyData.int).length : Nat) : Int)) = some (.int z) := by
    rw [List.length_map] at am lp ⊢
    obtain ⟨k, hk⟩ := Int.eq_ofNat_of_zero_le am.1
    rw [hk] at am ⊢
    have lk : k < x.cs.length := by omega
    refine ⟨x.cs[k], ?_⟩
    exact atI_nat (by simp [lk])
  refine bs_set (i := 4) (φ := Hd K (.int z)) rlEx sc_law_draw.nd rfl (.inl rfl) (de_ixL rlEx (cells7 (Ex.rfl' _) rfl) (de_opI rlEx op_mod (de_int1 rlEx rfl T.z_int (vd 3 (.int _))) (de_lenL rlEx rfl T.z_len (cells7 (Ex.rfl' _) rfl)) lp) hz) fun v8 H8 e8 q8 => ?_
  obtain rfl := dp_int q8
  have g8 := e8 _ _ g7
  refine bs_when (t := decide (z ≥ 1000000000000000000) && decide (a < (((x.cs.map PyData.int).length : Nat) : Int))) rlEx (dt_w (dw_and rlEx (dt_is (dt_cmpI (g := fun i j => decide (i ≥ j)) rlEx op_ge (vd 4 (.int _)) (de_opI rlEx op_pow (de_int rlEx) (de_int rlEx) ⟨by decide, by decide, by decide⟩)) (by rfl)) fun _ => dw_and1 (dt_cmpI (g := fun i j => decide (i < j)) rlEx op_lt (vd 3 (.int _)) (de_lenL rlEx rfl T.z_len (cells7 e8 rfl))))) (fun _ H9 e9 => ?_) (fun _ H9 e9 => ?_)
  · have g9 := e9 _ _ g8
    refine bs_dput hr (φ := Hd K (.int (z / m))) (ψ := Hv (.str "left")) (de_opI rlEx op_fdiv (vd 4 (.int _)) (vd 1 (.int _)) ⟨m1, by omega⟩) (mo_d rlEx) (vv 0) (de_imp (φ := Hd K (.str "left")) (de_str rlEx) (fun v' _ _ q => dp_str q) rlEx) fun v' y' H10 e10 hv hy => ?_
    obtain rfl := dp_int hv
    obtain rfl : y' = .str "left" := hy
    have g10 := e10 _ _ g9
    refine ⟨_, DPut.k (k := .inr "left") g10 big, ?_⟩
    have ep : putK [((.inr "cells" : Key), V.ref x.c), (.inr "at", .int (a + 1)), (.inr "left", .int l), (.inr "count", .int (n + 1))] (.inr "left") (.int (z / m)) = [((.inr "cells" : Key), V.ref x.c), (.inr "at", .int (a + 1)), (.inr "left", .int (z / m)), (.inr "count", .int (n + 1))] := rfl
    rw [ep]
    have r10 : RF K x H (upd H10 x.f (fdD x (a + 1) (z / m) (n + 1))) := (rlRF K x).trans r6 ((rlRF K x).trans ((rlRF K x).ex ((e8.tr e9).tr e10)) (fd_rn g10))
    refine bs_ret (φ := Hd K (.int (z % m))) (de_opI rlEx op_mod (de_int1 rlEx rfl T.z_int (vd 4 (.int _))) (vd 1 (.int _)) m1) rlEx fun v7 H11 e11 q => ?_
    obtain rfl := dp_int q
    exact out ((rlRF K x).trans r10 ((rlRF K x).ex e11)) (mod_in m1).1 (mod_in m1).2
  have g9 := e9 _ _ g8
  refine bs_set (i := 5) (φ := Hd K (.int ((z % 1000001801 + 96401 * (n + 1) + 631) % 2147483563))) rlEx sc_law_draw.nd rfl (.inl rfl) (de_opI rlEx op_mod (de_int1 rlEx rfl T.z_int (de_opI0 rlEx op_add (de_opI0 rlEx op_add (de_opI rlEx op_mod (de_int1 rlEx rfl T.z_int (vd 4 (.int _))) (de_int rlEx) (by decide)) (de_opI rlEx op_mul (de_int rlEx) (hv_d (fd_get 0 hr g9 rfl) rlEx) (.inl ⟨by decide, by decide⟩))) (de_int rlEx))) (de_int rlEx) (by decide)) fun v10 H10 e10 q10 => ?_
  obtain rfl := dp_int q10
  have g10 := e10 _ _ g9
  have b10 := mod_in (a := z % 1000001801 + 96401 * (n + 1) + 631) (m := 2147483563) (by decide)
  generalize (z % 1000001801 + 96401 * (n + 1) + 631) % 2147483563 = q1 at b10 ⊢
  refine bs_set (i := 5) (φ := Hd K (.int ((q1 ^ (3 : Nat) + 7400441 * (n + 1) + 347) % 2147483497))) rlEx sc_law_draw.nd rfl (.inl rfl) (de_opI rlEx op_mod (de_int1 rlEx rfl T.z_int (de_opI0 rlEx op_add (de_opI0 rlEx op_add (de_opI rlEx op_pow (vd 5 (.int _)) (de_int rlEx) ⟨by decide, by decide, by omega⟩) (de_opI rlEx op_mul (de_int rlEx) (hv_d (fd_get 0 hr g10 rfl) rlEx) (.inl ⟨by decide, by decide⟩))) (de_int rlEx))) (de_int rlEx) (by decide)) fun v11 H11 e11 q11 => ?_
  obtain rfl := dp_int q11
  have b11 := mod_in (a := q1 ^ (3 : Nat) + 7400441 * (n + 1) + 347) (m := 2147483497) (by decide)
  generalize (q1 ^ (3 : Nat) + 7400441 * (n + 1) + 347) % 2147483497 = q2 at b11 ⊢
  refine bs_ret (φ := Hd K (.int (((q2 ^ (3 : Nat) + 337 * q2) % 2147483489 / 32) % m))) (de_opI rlEx op_mod (de_int1 rlEx rfl T.z_int (de_opI rlEx op_fdiv (de_opI rlEx op_mod (de_int1 rlEx rfl T.z_int (de_opI0 rlEx op_add (de_opI rlEx op_pow (vd 5 (.int _)) (de_int rlEx) ⟨by decide, by decide, by omega⟩) (de_opI rlEx op_mul (de_int rlEx) (vd 5 (.int _)) (.inl ⟨by decide, by decide⟩)))) (de_int rlEx) (by decide)) (de_int rlEx) ⟨by decide, by decide⟩)) (vd 1 (.int _)) m1) rlEx fun v12 H12 e12 q12 => ?_
  obtain rfl := dp_int q12
  exact out ((rlRF K x).trans r6 ((rlRF K x).ex ((((e8.tr e9).tr e10).tr e11).tr e12))) (mod_in m1).1 (mod_in m1).2
end
end Lf
set_option maxHeartbeats 4000000
/-! Fd3: one of some, laps, lots, classes. -/
namespace Lf
open PySem PySem.Spec L2
open PyProof.Rows hiding St wpAt wpAt_bind wpAt_mono
/-- all but the list at l and the dict at f stands -/
def RL (f l : Addr) : Rel := fun H H' => ∀ b o, b ≠ l → H b = some o → (b ≠ f ∨ ND o) → H' b = some o
theorem RL.of {f l : Addr} {H H' : Hp} (x : RN f H H') : RL f l H H' := fun b o _ h n => x b o h n
theorem RL.tr {f l : Addr} {a b c : Hp} (x : RL f l a b) (y : RL f l b c) : RL f l a c := fun p o n h d => y p o n (x p o n h d) d
theorem RL.upd {f l : Addr} {H : Hp} {o : HO} : RL f l H (upd H l o) := fun b u n h _ => by rw [upd_ne n]; exact h
theorem RL.sqT {K : Fg} {f l a : Addr} {H H' : Hp} {xs ys : List V} (x : RL f l H H') (hl : H l = some (.lst ys)) (h : SqT K H a xs) : SqT K H' a xs := by
  have ne : ∀ u, H a = some u → u ≠ .lst ys → a ≠ l := fun u e n q => n (by rw [q, hl] at e; exact (Option.some.inj e).symm)
  rcases h with (h | ⟨o, h⟩) | h
  · exact .inl (.inl (x _ _ (ne _ h fun z => by cases z) h (.inr ⟨(fun _ z => by cases z), fun _ z => by cases z⟩)))
  · exact .inl (.inr ⟨o, x _ _ (ne _ h fun z => by cases z) h (.inr ⟨(fun _ z => by cases z), fun _ z => by cases z⟩)⟩)
  · exact .inr h
section
variable {P : Program} {w : World} {K : Fg} {mg : Str → Option Value} {base : Heap}
abbrev spAny (K : Fg) : Sp := spT (fun y : FdX × List PyData => RF K y.1) (fun y => y.2 ≠ [] ∧ y.2.length ≤ 1000) (fun y => [Hf K y.1, Hd K (.list y.2)]) (fun y => HE K fun d => d ∈ y.2)
theorem f_law_any (T : Tx K mg) : Fnc P w K mg base 2 "_law_any" (spAny K) := by
  refine ⟨T.g_law_any, fna_of T.d_law_any sc_law_any bn_law_any (fun _ => rfl) fun cdv A0 outer s H E y vs Q hr ok ha hQ => ?_⟩
  obtain ⟨x, ds⟩ := y
  obtain ⟨v, u, rfl, hf, h2⟩ := all2 ha
  obtain ⟨ne, le⟩ := ok
  have ne : ds ≠ [] := ne
  have le : ds.length ≤ 1000 := le
  have pos : 0 < ds.length := List.length_pos_iff.mpr ne
  have r := rlRF K x
  refine bs_ret (φ := HE K fun d => d ∈ ds) (de_ix (φ := Hd K (.list ds)) (ψ := HI K fun i => 0 ≤ i ∧ i < (ds.length : Int)) r ix_list (vr 1 r (mo_d r) h2) (mo_d r) (cR (f_law_draw T) ⟨x, ds.length⟩ r (fun _ _ h => h) hr ⟨by show (0 : Int) < ds.length; omega, by show (ds.length : Int) < 100000; omega⟩ (da_cons r mo_f (vr 0 r mo_f hf) (da_cons r (mo_d r) (de_lenL r rfl T.z_len (vr 1 r (mo_d r) h2)) (da_nil r)))) (fun _ _ => rfl) fun v1 v2 H2 _ p1 p2 Q k => ?_) r fun v' H4 e4 q => hQ v' H4 e4 q
  obtain ⟨t, xs, rfl, h3, h4⟩ := dp_lst p1
  obtain ⟨i, ⟨i1, i2⟩, rfl⟩ := hi_of p2
  obtain ⟨n, rfl⟩ := Int.eq_ofNat_of_zero_le i1
  have ln : n < ds.length := by omega
  obtain ⟨v, e1, e2⟩ := dp_at (i := (n : Int)) (d := ds[n]) h4 (atI_nat (by simp [ln]))
  exact ⟨t, xs, n, v, rfl, rfl, h3, e1, k v H2 (r.refl _) ⟨_, List.getElem_mem ln, e2⟩⟩
abbrev spLaps (K : Fg) : Sp := spT (fun _ => Ex) (fun _ : List Int × Int => True) (fun y => [Hd K (.list (y.1.map PyData.int)), Hd K (.int y.2)]) (fun y => Hd K (.int (if PyData.eqv (.list (y.1.map PyData.int)) (.list []) = true then 1 else y.2)))
theorem f_law_laps (T : Tx K mg) : Fnc P w K mg base 1 "_law_laps" (spLaps K) := by
  refine ⟨T.g_law_laps, fna_of T.d_law_laps sc_law_laps bn_law_laps (fun _ => rfl) fun cdv A0 outer s H E y vs Q hr ok ha hQ => ?_⟩
  obtain ⟨cs, n⟩ := y
  obtain ⟨v, u, rfl, h1, h2⟩ := all2 ha
  have h1 : Dp K H v (.list (cs.map PyData.int)) := h1
  obtain rfl := dp_int h2
  refine bs_ret (φ := Hd K (.int (if PyData.eqv (.list (cs.map PyData.int)) (.list []) = true then 1 else n))) (de_if rlEx (dt_neD rlEx hr (vd 0 h1) (de_lst rlEx (dd_nil rlEx)) (shn_ints cs) (shn_ints [])) (fun z => de_is (vd 1 (.int n)) ?_) (fun z => de_is (de_int rlEx) ?_)) rlEx fun v' H4 e4 q => hQ v' H4 e4 q
  · rw [if_neg (by intro q; rw [q] at z; cases z)]
  · rw [if_pos (by simpa using z)]
/-! ### forms -/
def labs : List Str := ["k", "n", "to", "w"]
def kGood (names : List Str) (k : Kd) : Prop := (∃ lo hi, k = .rng lo hi ∧ lo ≤ hi ∧ -1000 ≤ lo ∧ hi ≤ 1000) ∨ ∃ c ∈ names, k = .cls c
structure LotOk (names : List Str) (fm : Form) : Prop where
  sub : (fm.map (·.1)).Sublist labs
  kd : ∀ p ∈ fm, kGood names p.2
def rngs : List PyData := [.tuple [.int 0, .int 3], .tuple [.int 0, .int 9], .tuple [.int (-2), .int 2], .tuple [.int 1, .int 1], .tuple [.int (-999), .int 1000]]
theorem anyok {x : FdX} : (x, rngs).2 ≠ [] ∧ (x, rngs).2.length ≤ 1000 := ⟨(by decide : rngs ≠ []), (by decide : rngs.length ≤ 1000)⟩
theorem rngs_good {names : List Str} : ∀ d ∈ rngs, ∃ k, d = dK k ∧ kGood names k := by
  intro d hd
  unfold rngs at hd
  simp only [List.mem_cons, List.not_mem_nil, or_false] at hd
  rcases hd with rfl | rfl | rfl | rfl | rfl
  · exact ⟨.rng 0 3, rfl, .inl ⟨_, _, rfl, by decide, by decide, by decide⟩⟩
  · exact ⟨.rng 0 9, rfl, .inl ⟨_, _, rfl, by decide, by decide, by decide⟩⟩
  · exact ⟨.rng (-2) 2, rfl, .inl ⟨_, _, rfl, by decide, by decide, by decide⟩⟩
  · exact ⟨.rng 1 1, rfl, .inl ⟨_, _, rfl, by decide, by decide, by decide⟩⟩
  · exact ⟨.rng (-999) 1000, rfl, .inl ⟨_, _, rfl, by decide, by decide, by decide⟩⟩
abbrev spLot (K : Fg) : Sp := spT (fun y : FdX × List Str => RF K y.1) (fun y => y.2 ≠ [] ∧ y.2.length ≤ 3) (fun y => [Hf K y.1, Hd K (.list (y.2.map PyData.str))]) (fun y v H' => ∃ fm, LotOk y.2 fm ∧ Dp K H' v (dForm fm))
/-- (label, one of some) -/
theorem two_of {K : Fg} {X : Cx} {R : Rel} {σ : St} {H : Hp} {a b : Expr} {kk : Nat} {pos : Pos} {q : PyData → Prop} {lab : Str} {names : List Str} (r : Rl R) (hK : X.K = K) (ha : PE X a (tG R σ H (Hd X.K (.str lab)))) (hb : PE X b (tG R σ H (HE X.K q))) (hq : ∀ d, q d → ∃ k, d = dK k ∧ kGood names k)
    (h1 : starEach [a, b] X.env = (false, eval a X.env) :: starEach [b] X.env := by rfl) (h2 : starEach [b] X.env = (false, eval b X.env) :: starEach [] X.env := by rfl) :
    PE X (.Tuple [a, b] kk pos) (tG R σ H (HE X.K fun d => ∃ k, d = dFld (lab, k) ∧ kGood names k)) :=
  de_imp (de_tupE (φs := [Hd X.K (.str lab), HE X.K q]) r (da_cons r (mo_d r) ha (da_cons r (mo_he r) hb (da_nil r) h2) h1) (fun vs H' z => by rw [All2.length z]; show 2 ≤ sizeLine; decide) fun vs a b e z => by
    obtain ⟨u, t, rfl, z1, z2⟩ := all2 z
    exact ⟨u, _, rfl, rlEx.dp e z1, t, _, rfl, mo_he rlEx _ _ _ e z2, rfl⟩) (fun v H' _ ⟨p, vs, e, hp, z⟩ => by
    obtain ⟨u, t, rfl, z1, d, hd, z2⟩ := all2 z
    obtain ⟨k, rfl, g⟩ := hq d hd
    subst e
    exact ⟨_, ⟨k, rfl, g⟩, .tup (.inl (.inl hp)) (.cons z1 (.cons z2 .nil))⟩) r
theorem f_law_lot (T : Tx K mg) : Fnc P w K mg base 3 "_law_lot" (spLot K) := by
  refine ⟨T.g_law_lot, fna_of T.d_law_lot sc_law_lot bn_law_lot (fun _ => rfl) fun cdv A0 outer s H E y vs Q hr ok ha hQ => ?_⟩
  obtain ⟨x, names⟩ := y
  obtain ⟨v, u, rfl, hf, h2⟩ := all2 ha
  obtain ⟨ne, le⟩ := ok
  have ne : names ≠ [] := ne
  have le : names.length ≤ 3 := le
  have h2 : Dp K H u (.list (names.map PyData.str)) := h2
  have r := rlRF K x
  have big : 1000 ≤ sizeLine := by decide
  obtain ⟨rfl, hf⟩ := hf
  refine bs_set (i := 2) (φ := IsLst K H []) rlEx sc_law_lot.nd rfl (.inl rfl) (de_lstN (dd_nil rlEx)) fun lv H1 e1 hlv => ?_
  obtain ⟨l, ys, rfl, n1, hl1, hy1⟩ := hlv
  cases hy1
  have r1 : RF K x H H1 := r.ex e1
  refine bs_forTN (q := fun ds => ∃ ls : List Str, ds = ls.map PyData.str ∧ ls.Sublist labs) (g := gName 3) r PassesOwn.never rfl ?_ (pg_name (i := 3) sc_law_lot.nd rfl (.inl rfl))
    (fun ds xs H6 i σ' H' => ∃ b c, σ' = [some (.ref x.f), some u, some (.ref l), b, c] ∧ RF K x H H' ∧ (∃ ys, H6 l = some (.lst ys)) ∧ RL x.f l H6 H' ∧ ∃ (acc : List V) (fm : Form) (ls : List Str), H' l = some (.lst acc) ∧ DpAll K H' acc (fm.map dFld) ∧ ds = ls.map PyData.str ∧ ls.Sublist labs ∧ (fm.map (·.1)).Sublist (ls.take i) ∧ (∀ p ∈ fm, kGood names p.2))
    (fun ds a xs H6 ⟨ls, q1, q2⟩ e6 _ _ => ⟨_, _, rfl, r.trans r1 e6, ⟨_, r.keep e6 hl1 ⟨(fun _ z => by cases z), fun _ z => by cases z⟩⟩, RL.of ((rlRN x.f).refl _), [], [], ls, r.keep e6 hl1 ⟨(fun _ z => by cases z), fun _ z => by cases z⟩, .nil, q1, q2, List.nil_sublist _, fun _ h => by cases h⟩)
    (fun ds a xs H6 i σ' H' hq _ ⟨_, _, _, _, ⟨ys, hys⟩, ro, _⟩ => RL.sqT ro hys hq) ?_ ?_
  · -- the labels
    refine de_ifN (β := fun _ => True) r (dt_cmpN (φ := HI K fun i => 0 ≤ i ∧ i < 8) (ψ := Hd K (.int 0)) r op_gt (cR (f_law_draw T) ⟨x, 8⟩ r (fun _ _ h => h) hr (dwok (by decide) (by decide)) (da_cons r mo_f (vrm 0 r mo_f ⟨rfl, hf⟩ r1) (da_cons r (mo_d r) (de_int r) (da_nil r)))) (mo_he r) (de_int r) (nomark _) fun a b H2 _ p q Q k => ?_)
      (de_imp (φ := Hd K (.tuple (labs.map PyData.str))) (de_tup r (dd_cons r (de_str r) (dd_cons r (de_str r) (dd_cons r (de_str r) (dd_cons r (de_str r) (dd_nil r)))))) (fun v H2 _ h => ⟨_, ⟨labs, rfl, List.Sublist.refl _⟩, h⟩) r)
      (de_imp (φ := Hd K (.tuple [])) (de_tup r (dd_nil r)) (fun v H2 _ h => ⟨_, ⟨[], rfl, List.nil_sublist _⟩, h⟩) r)
    obtain ⟨i, _, rfl⟩ := hi_of p
    obtain rfl := dp_int q
    exact ⟨i, 0, rfl, rfl, k _ H2 True.intro (r.refl _)⟩
  · rintro ds a xs H6 i y σ' H' _ e6 hq6 hd6 hx ⟨b, c, rfl, rr, ⟨ys, hys⟩, ro, acc, fm, ls, hacc, dacc, eds, sls, sub, kd⟩
    subst eds
    obtain ⟨d, hdi, hdx⟩ := DpAll.getV hd6 hx
    obtain ⟨lab, hlab, rfl⟩ := map_get hdi
    obtain rfl := dp_str hdx
    have htake : ls.take (i + 1) = ls.take i ++ [lab] := by rw [List.take_succ, hlab]; rfl
    have il : i < ls.length := (List.getElem?_eq_some_iff.mp hlab).1
    have lfm : fm.length ≤ 4 := by
      have h1 := sub.length_le
      have h2 := (List.take_sublist i ls).length_le
      have h3 := sls.length_le
      rw [List.length_map] at h1
      exact Nat.le_trans h1 (Nat.le_trans h2 h3)
    refine g1 ?_
    refine bs_set (i := 4) (φ := HI K fun i => 0 ≤ i ∧ i < 7) r sc_law_lot.nd rfl (.inl rfl) (cR (f_law_draw T) ⟨x, 7⟩ r (fun _ _ h => h) hr (dwok (by decide) (by decide)) (da_cons r mo_f (vrm 0 r mo_f ⟨rfl, hf⟩ rr) (da_cons r (mo_d r) (de_int r) (da_nil r)))) fun v7 H7 r7 q7 => ?_
    obtain ⟨n, _, rfl⟩ := hi_of q7
    have l7 : H7 l = some (.lst acc) := r.keep r7 hacc ⟨(fun _ z => by cases z), fun _ z => by cases z⟩
    have skip : ∀ (H8 : Hp) (b c : Option V), RF K x H' H8 → ∃ b' c', [some (V.ref x.f), some u, some (.ref l), b, c] = [some (.ref x.f), some u, some (.ref l), b', c'] ∧ RF K x H H8 ∧ (∃ ys, H6 l = some (.lst ys)) ∧ RL x.f l H6 H8 ∧ ∃ (acc : List V) (fm : Form) (ls' : List Str), H8 l = some (.lst acc) ∧ DpAll K H8 acc (fm.map dFld) ∧ ls.map PyData.str = ls'.map PyData.str ∧ ls'.Sublist labs ∧ (fm.map (·.1)).Sublist (ls'.take (i + 1)) ∧ (∀ p ∈ fm, kGood names p.2) :=
      fun H8 b c r8 => ⟨b, c, rfl, r.trans rr r8, ⟨_, hys⟩, ro.tr (RL.of r8.1), acc, fm, ls, r.keep r8 hacc ⟨(fun _ z => by cases z), fun _ z => by cases z⟩, r.dpAll r8 dacc, rfl, sls, by rw [htake]; exact sub.trans (List.sublist_append_left _ _), kd⟩
    have push : ∀ (H8 : Hp) (z : V) (b c : Option V), RF K x H' H8 → H8 l = some (.lst acc) → HE K (fun d => ∃ k, d = dFld (lab, k) ∧ kGood names k) z H8 → ∃ b' c', [some (V.ref x.f), some u, some (.ref l), b, c] = [some (.ref x.f), some u, some (.ref l), b', c'] ∧ RF K x H (upd H8 l (.lst (acc ++ [z]))) ∧ (∃ ys, H6 l = some (.lst ys)) ∧ RL x.f l H6 (upd H8 l (.lst (acc ++ [z]))) ∧ ∃ (acc' : List V) (fm : Form) (ls' : List Str), upd H8 l (.lst (acc ++ [z])) l = some (.lst acc') ∧ DpAll K (upd H8 l (.lst (acc ++ [z]))) acc' (fm.map dFld) ∧ ls.map PyData.str = ls'.map PyData.str ∧ ls'.Sublist labs ∧ (fm.map (·.1)).Sublist (ls'.take (i + 1)) ∧ (∀ p ∈ fm, kGood names p.2) := by
      rintro H8 z b c r8 l8 ⟨_, ⟨k, rfl, gk⟩, hz⟩
      have tu := tups_upd (o := .lst (acc ++ [z])) (no_tup l8 (fun _ z => by cases z) fun _ _ z => by cases z)
      refine ⟨b, c, rfl, r.mt (r.trans rr r8) n1, ⟨_, hys⟩, (ro.tr (RL.of r8.1)).tr RL.upd, acc ++ [z], fm ++ [(lab, k)], ls, upd_same, ?_, rfl, sls, ?_, fun p hp => ?_⟩
      · rw [List.map_append]
        exact DpAll.app (dp_nolAll tu (nolAll_map fun p _ => nol_fld p) (r.dpAll r8 dacc)) (.cons (dp_nol tu (nol_fld _) hz) .nil)
      · rw [htake, List.map_append]
        exact sub.append (List.Sublist.refl _)
      · rcases List.mem_append.mp hp with h | h
        · exact kd p h
        · obtain rfl := List.mem_singleton.mp h
          exact gk
    refine bs_if (t := decide (n < 3)) rlEx (dt_cmpI (g := fun i j => decide (i < j)) rlEx op_lt (vd 4 (.int _)) (de_int rlEx)) (fun _ H8 e8 => ?_) (fun _ H8 e8 => ?_)
    · have r8 := r.trans r7 (r.ex e8)
      refine bs_append (φ := HE K fun d => ∃ k, d = dFld (lab, k) ∧ kGood names k) (i := 2) r rfl rfl (.inl rfl) (e8 _ _ l7) (by rw [DpAll.length dacc, List.length_map]; omega) (mo_he r) (two_of r rfl (vr 3 r (mo_d r) (.str lab)) (cR (f_law_any T) (x, rngs) r (fun _ _ h => h) hr anyok (da_cons r mo_f (vrm 0 r mo_f ⟨rfl, hf⟩ (r.trans rr r8)) (da_cons r (mo_d r) (de_lst r ?_) (da_nil r)))) rngs_good) fun z H9 r9 pz hl9 => bs_nil (bs_nil ?_)
      · refine dd_cons r (de_tup r (dd_cons r (de_int r) (dd_cons r (de_int r) (dd_nil r)))) (dd_cons r (de_tup r (dd_cons r (de_int r) (dd_cons r (de_int r) (dd_nil r)))) (dd_cons r (de_tup r (dd_cons r (de_neg (de_int r)) (dd_cons r (de_int r) (dd_nil r)))) (dd_cons r (de_tup r (dd_cons r (de_int r) (dd_cons r (de_int r) (dd_nil r)))) (dd_cons r (de_tup r (dd_cons r (de_neg (de_int r)) (dd_cons r (de_int r) (dd_nil r)))) (dd_nil r)))))
      · exact push _ _ _ _ (r.trans r8 r9) hl9 pz
    · refine bs_when (t := decide (n < 5)) rlEx (dt_cmpI (g := fun i j => decide (i < j)) rlEx op_lt (vd 4 (.int _)) (de_int rlEx)) (fun _ H9 e9 => ?_) (fun _ H9 e9 => bs_nil (bs_nil (skip _ _ _ (r.trans r7 (r.ex (e8.tr e9))))))
      have r8 := r.trans r7 (r.ex (e8.tr e9))
      refine bs_append (φ := HE K fun d => ∃ k, d = dFld (lab, k) ∧ kGood names k) (i := 2) r rfl rfl (.inl rfl) (e9 _ _ (e8 _ _ l7)) (by rw [DpAll.length dacc, List.length_map]; omega) (mo_he r) (two_of r rfl (vr 3 r (mo_d r) (.str lab)) (cR (f_law_any T) (x, names.map PyData.str) r (fun _ _ h => h) hr ⟨fun z => ne (List.map_eq_nil_iff.mp z), by show (names.map PyData.str).length ≤ 1000; rw [List.length_map]; omega⟩ (da_cons r mo_f (vrm 0 r mo_f ⟨rfl, hf⟩ (r.trans rr r8)) (da_cons r (mo_d r) (vrm 1 r (mo_d r) h2 (r.trans rr r8)) (da_nil r)))) fun d hd => ?_) fun z H10 r10 pz hl9 => bs_nil (bs_nil (bs_nil ?_))
      · obtain ⟨c, hc, rfl⟩ := List.mem_map.mp hd
        exact ⟨.cls c, rfl, .inr ⟨c, hc, rfl⟩⟩
      · exact push _ _ _ _ (r.trans r8 r10) hl9 pz
  · rintro ds a xs H6 σ' H' _ e6 hq6 hd6 ⟨b, c, rfl, rr, ⟨ys, hys⟩, ro, acc, fm, ls, hacc, dacc, eds, sls, sub, kd⟩
    subst eds
    refine bs_ret (φ := Hd K (dForm fm)) (de_tupleL rlEx rfl T.z_tuple (vd 2 (.lst (.inl (.inl hacc)) dacc))) rlEx fun v' H7 e7 q => hQ v' H7 (r.trans rr (r.ex e7)) ⟨fm, ⟨?_, kd⟩, q⟩
    rw [List.length_map, List.take_length] at sub
    exact sub.trans sls
end
end Lf
set_option maxHeartbeats 4000000
/-! Fd4: classes, values, a store. -/
namespace Lf
open PySem PySem.Spec L2
open PyProof.Rows hiding St wpAt wpAt_bind wpAt_mono
def cnames : List (List Str) := [["a"], ["a", "get"], ["a", "get", "lid"]]
structure SchOk (sch : Sch) : Prop where
  names : sch.map (·.1) ∈ cnames
  lots : ∀ p ∈ sch, LotOk (sch.map (·.1)) p.2
section
variable {P : Program} {w : World} {K : Fg} {mg : Str → Option Value} {base : Heap}
abbrev spClss (K : Fg) : Sp := spT (fun x : FdX => RF K x) (fun _ => True) (fun x => [Hf K x]) (fun x v H' => ∃ sch, SchOk sch ∧ Hs K sch v H')
theorem nol_cls (p : Str × Form) : nol (dCls p) = true := by simp [dCls, nol, nolAll, nol_form]
theorem cut_names (i : Int) (h : 1 ≤ i ∧ i < 4) : ∃ ns ∈ cnames, cutD [PyData.str "a", .str "get", .str "lid"] none (some i) = ns.map PyData.str := by
  obtain ⟨h1, h2⟩ := h
  have : i = 1 ∨ i = 2 ∨ i = 3 := by omega
  rcases this with rfl | rfl | rfl
  · exact ⟨["a"], by simp [cnames], rfl⟩
  · exact ⟨["a", "get"], by simp [cnames], rfl⟩
  · exact ⟨["a", "get", "lid"], by simp [cnames], rfl⟩
theorem cn_len {ns : List Str} (h : ns ∈ cnames) : ns ≠ [] ∧ ns.length ≤ 3 := by
  simp only [cnames, List.mem_cons, List.not_mem_nil, or_false] at h
  rcases h with rfl | rfl | rfl <;> exact ⟨by simp, by decide⟩
theorem f_law_classes (T : Tx K mg) : Fnc P w K mg base 4 "_law_classes" (spClss K) := by
  refine ⟨T.g_law_classes, fna_of T.d_law_classes sc_law_classes bn_law_classes (fun _ => rfl) fun cdv A0 outer s H E x vs Q hr ok ha hQ => ?_⟩
  obtain ⟨v, rfl, hf⟩ := all1 ha
  have r := rlRF K x
  obtain ⟨rfl, hf⟩ := hf
  refine bs_set (i := 1) (φ := HE K fun d => ∃ i, (1 ≤ i ∧ i < 4) ∧ d = .list (cutD [PyData.str "a", .str "get", .str "lid"] none (some i))) r sc_law_classes.nd rfl (.inr rfl) (de_slLN (q := fun i => 1 ≤ i ∧ i < 4) r (de_lst r (dd_cons r (de_str r) (dd_cons r (de_str r) (dd_cons r (de_str r) (dd_nil r))))) (dpo_none r)
    (dpo_someN (de_op (φ := Hd K (.int 1)) (ψ := HI K fun i => 0 ≤ i ∧ i < 3) r op_add (de_int r) (mo_d r) (cR (f_law_draw T) ⟨x, 3⟩ r (fun _ _ h => h) hr (dwok (by decide) (by decide)) (da_cons r mo_f (vr 0 r mo_f ⟨rfl, hf⟩) (da_cons r (mo_d r) (de_int r) (da_nil r)))) fun a b H2 _ p q Q k => ?_))) fun v1 H1 r1 q1 => ?_
  · obtain rfl := dp_int p
    obtain ⟨i, ⟨i0, i1⟩, rfl⟩ := hi_of q
    exact ⟨1, i, rfl, rfl, k _ H2 (r.refl _) ⟨_, ⟨1 + i, ⟨by omega, by omega⟩, rfl⟩, .int _⟩⟩
  obtain ⟨_, ⟨i, hi, rfl⟩, q1⟩ := q1
  obtain ⟨ns, hns, e⟩ := cut_names i hi
  rw [e] at q1
  obtain ⟨n0, n3⟩ := cn_len hns
  refine bs_ret (φ := fun v H' => ∃ sch, SchOk sch ∧ Hs K sch v H') (de_imp (de_tupleN (q := Pick (fun _ b => b = true) (Ty (fun c fm => dCls (c, fm)) fun _ fm => LotOk ns fm) ns) r rfl T.z_tuple
    (de_lcN (own := [("_law_own", 2)]) (g := gName 2) (src := ns) (ι := fun c => Hd K (.str c)) (β := fun _ b => b = true) r rfl sc_law_classes.nd (blkOk_by (N := ["_law_feed_here", "_law_names", "_law_own"]) (sc := defScope s_law_classes) (by decide +kernel)) (src_lst (f := PyData.str) r (vr 1 r (mo_d r) q1)) (Nat.lt_of_le_of_lt n3 (by decide))
      (fun c d ⟨fm, h, _⟩ => by subst h; exact nol_cls _) (fun _ _ _ _ _ => pg_name (i := 2) sc_law_classes.nd rfl (.inl rfl)) gm_name
      fun c z H2 hc r2 hz => ⟨rfl, r.refl _, fun _ _ _ _ _ => dts_nilN r fun _ h => h, fun H3 r3 _ _ _ _ _ => ?_⟩)) (fun v H' _ ⟨ds, pk, hz⟩ => ?_) r) r fun v' H4 r4 q => hQ v' H4 (r.trans r1 r4) q
  · have r13 := r.trans r1 (r.trans r2 r3)
    refine de_imp (de_tupE (φs := [Hd K (.str c), fun v H' => ∃ fm, LotOk ns fm ∧ Dp K H' v (dForm fm)]) r (da_cons r (mo_d r) (vrm 2 r (mo_d r) hz r3) (da_cons r (fun _ _ _ e ⟨fm, h1, h2⟩ => ⟨fm, h1, r.dp e h2⟩) (cR (f_law_lot T) (x, ns) r (fun _ _ h => h) hr ⟨n0, n3⟩ (da_cons r mo_f (vrm 0 r mo_f ⟨rfl, hf⟩ r13) (da_cons r (mo_d r) (vrm 1 r (mo_d r) q1 (r.trans r2 r3)) (da_nil r)))) (da_nil r)))
      (fun vs H' z => by rw [All2.length z]; show 2 ≤ sizeLine; decide) fun vs a b e z => ?_) (fun v H' _ ⟨p, vs, e, hp, z⟩ => ?_) r
    · obtain ⟨u, t, rfl, z1, fm, z2, z3⟩ := all2 z
      exact ⟨u, _, rfl, rlEx.dp e z1, t, _, rfl, ⟨fm, z2, rlEx.dp e z3⟩, rfl⟩
    · obtain ⟨u, t, rfl, z1, fm, z2, z3⟩ := all2 z
      subst e
      exact ⟨_, ⟨fm, rfl, z2⟩, .tup (.inl (.inl hp)) (.cons z1 (.cons z3 .nil))⟩
  · obtain ⟨zs, h1, h2, h3⟩ := Pick.full (fun _ h => by cases h) pk
    refine ⟨zs, ⟨by rw [h1]; exact hns, by rw [h1]; exact h3⟩, ?_⟩
    show IsFz K (zs.map dCls) v H'
    rw [h2] at hz
    exact hz
/-! ### values -/
abbrev Mem := Nat × Str
def dMem (m : Mem) : PyData := .tuple [.int (m.1 : Int), .str m.2]
structure FtX where
  x : FdX
  k : Kd
  ms : List Mem
def ftOk (k : Kd) : Prop := ∀ lo hi, k = .rng lo hi → lo ≤ hi ∧ hi - lo < 5000
abbrev spFit (K : Fg) : Sp := spT (fun y : FtX => RF K y.x) (fun y => ftOk y.k ∧ y.ms.length ≤ 6) (fun y => [Hf K y.x, Hd K (dK y.k), Hd K (.list (y.ms.map dMem))]) (fun y => HE K fun d => ∃ v, d = dV v ∧ vlOk y.k v)
theorem nol_mem (m : Mem) : nol (dMem m) = true := by simp [dMem, nol, nolAll]
theorem f_law_fitting (T : Tx K mg) : Fnc P w K mg base 3 "_law_fitting" (spFit K) := by
  refine ⟨T.g_law_fitting, fna_of T.d_law_fitting sc_law_fitting bn_law_fitting (fun _ => rfl) fun cdv A0 outer s H E y vs Q hr ok ha hQ => ?_⟩
  obtain ⟨x, k, ms⟩ := y
  obtain ⟨v, u, t, rfl, hf, h2, h3⟩ := all3 ha
  obtain ⟨o1, o2⟩ := ok
  have o1 : ftOk k := o1
  have o2 : ms.length ≤ 6 := o2
  have h2 : Dp K H u (dK k) := h2
  have h3 : Dp K H t (.list (ms.map dMem)) := h3
  have r := rlRF K x
  have big : 1000 ≤ sizeLine := by decide
  obtain ⟨rfl, hf⟩ := hf
  cases k with
  | rng lo hi =>
    obtain ⟨l1, l2⟩ := o1 lo hi rfl
    have h2 : Dp K H u (.tuple [.int lo, .int hi]) := h2
    refine bs_when (t := true) rlEx (dt_val rlEx (de_isi rlEx rfl T.z_isinstance (vd 1 h2) (vty rlEx T.z_tuple) (kit_Tup (.tuple [.int lo, .int hi])))) (fun _ H1 e1 => ?_) (fun z => by cases z)
    refine bs_ret (φ := HE K fun d => ∃ v, d = dV v ∧ vlOk (.rng lo hi) v) (de_op (φ := Hd K (.int lo)) (ψ := HI K fun i => 0 ≤ i ∧ i < hi - lo + 1) r op_add (de_ixT r (vrm 1 r (mo_d r) h2 (r.ex e1)) (de_int r) rfl) (mo_d r)
      (cR (f_law_draw T) ⟨x, hi - lo + 1⟩ r (fun _ _ h => h) hr ⟨by show 0 < hi - lo + 1; omega, by show hi - lo + 1 < 100000; omega⟩ (da_cons r mo_f (vrm 0 r mo_f ⟨rfl, hf⟩ (r.ex e1)) (da_cons r (mo_d r) (de_opI0 r op_add (de_opI0 r op_sub (de_ixT (d := .int hi) r (vrm 1 r (mo_d r) h2 (r.ex e1)) (de_int r) rfl) (de_ixT (d := .int lo) r (vrm 1 r (mo_d r) h2 (r.ex e1)) (de_int r) rfl)) (de_int r)) (da_nil r)))) fun a b H2 _ p q Q k => ?_) r fun v' H4 r4 q => hQ v' H4 (r.trans (r.ex e1) r4) q
    obtain rfl := dp_int p
    obtain ⟨i, ⟨i0, i1⟩, rfl⟩ := hi_of q
    exact ⟨lo, i, rfl, rfl, k _ H2 (r.refl _) ⟨_, ⟨some (lo + i), rfl, by show lo ≤ lo + i; omega, by show lo + i ≤ hi; omega⟩, .int _⟩⟩
  | cls c =>
    have h2 : Dp K H u (.str c) := h2
    refine bs_when (t := false) rlEx (dt_val rlEx (de_isi rlEx rfl T.z_isinstance (vd 1 h2) (vty rlEx T.z_tuple) (kit_Tup (.str c)))) (fun z => by cases z) (fun _ H1 e1 => ?_)
    have len : ([PyData.none] ++ (ms.filter fun m => decide (m.2 = c)).map fun m => PyData.int (m.1 : Int)).length ≤ 1000 := by
      rw [List.length_append, List.length_map]
      have := List.length_filter_le (fun m : Mem => decide (m.2 = c)) ms
      simp only [List.length_cons, List.length_nil]
      omega
    refine bs_ret (φ := HE K fun d => ∃ v, d = dV v ∧ vlOk (.cls c) v) (de_imp (cR (f_law_any T) (x, [PyData.none] ++ (ms.filter fun m => decide (m.2 = c)).map fun m => PyData.int (m.1 : Int)) r (fun _ _ h => h) hr ⟨by simp, len⟩ (da_cons r mo_f (vrm 0 r mo_f ⟨rfl, hf⟩ (r.ex e1)) (da_cons r (mo_d r) (de_imp (de_catO r (de_lstO r (dd_cons r (de_non r) (dd_nil r))) ?_ ?_) (fun _ _ _ h => ol_dp h) r) (da_nil r)))) (fun v H' _ ⟨d, hd, hv⟩ => ?_) r) r fun v' H4 r4 q => hQ v' H4 (r.trans (r.ex e1) r4) q
    · refine de_lcO (own := [("_law_n", 3), ("_law_own", 4)]) (g := gTup K 2 (gCons (gName 3) (gCons (gName 4) gNil))) (src := ms) (bo := fun m => decide (m.2 = c)) (eo := fun m => PyData.int (m.1 : Int)) r rfl sc_law_fitting.nd (blkOk_by (N := ["_law_feed_here", "_law_sort", "_law_members", "_law_n", "_law_own"]) (sc := defScope s_law_fitting) (by decide +kernel)) (src_lst (f := dMem) r (vrm 2 r (mo_d r) h3 (r.ex e1))) (by omega) (fun _ _ => rfl)
        (fun _ _ _ _ _ => pg_tup (X := _) rfl (pgs_cons (pg_name (i := 3) sc_law_fitting.nd rfl (.inl rfl)) (pgs_cons (pg_name (i := 4) sc_law_fitting.nd rfl (.inl rfl)) pgs_nil))) gm_2 fun m z H2 hm r2 hz => g2 hz fun z1 z2 p1 p2 => ⟨rfl, r.refl _, fun _ _ _ _ _ => dts_one (dt_eqS r (vr 4 r (mo_d r) p2) (vrm 1 r (mo_d r) h2 (r.trans (r.ex e1) r2))), fun _ H3 r3 _ _ _ _ _ => vrm 3 r (mo_d r) p1 r3⟩
    · rw [List.length_append] at len
      omega
    · refine ⟨d, ?_, hv⟩
      rcases List.mem_append.mp hd with h | h
      · obtain rfl := List.mem_singleton.mp h
        exact ⟨none, rfl, True.intro⟩
      · obtain ⟨m, _, rfl⟩ := List.mem_map.mp h
        exact ⟨some m.1, rfl, True.intro⟩
structure VsX where
  x : FdX
  fm : Form
  ms : List Mem
abbrev spVals (K : Fg) : Sp := spT (fun y : VsX => RF K y.x) (fun y => (∀ p ∈ y.fm, ftOk p.2) ∧ y.fm.length ≤ 4 ∧ y.ms.length ≤ 6) (fun y => [Hf K y.x, Hd K (dForm y.fm), Hd K (.list (y.ms.map dMem))]) (fun y v H' => ∃ vs : List Vl, valsOk y.fm vs ∧ Dp K H' v (.tuple (vs.map dV)))
theorem f_law_values (T : Tx K mg) : Fnc P w K mg base 4 "_law_values" (spVals K) := by
  refine ⟨T.g_law_values, fna_of T.d_law_values sc_law_values bn_law_values (fun _ => rfl) fun cdv A0 outer s H E y vs Q hr ok ha hQ => ?_⟩
  obtain ⟨x, fm, ms⟩ := y
  obtain ⟨v, u, t, rfl, hf, h2, h3⟩ := all3 ha
  obtain ⟨o1, o2, o3⟩ := ok
  have o1 : ∀ p ∈ fm, ftOk p.2 := o1
  have o2 : fm.length ≤ 4 := o2
  have o3 : ms.length ≤ 6 := o3
  have h2 : Dp K H u (.tuple (fm.map dFld)) := h2
  have h3 : Dp K H t (.list (ms.map dMem)) := h3
  have r := rlRF K x
  have big : 1000 ≤ sizeLine := by decide
  obtain ⟨rfl, hf⟩ := hf
  refine bs_ret (φ := fun v H' => ∃ vs : List Vl, valsOk fm vs ∧ Dp K H' v (.tuple (vs.map dV))) (de_imp (de_tupleN (q := Pick (fun _ b => b = true) (Ty (fun _ v => dV v) fun p v => vlOk p.2 v) fm) r rfl T.z_tuple
    (de_lcN (own := [("_law_label", 3), ("_law_sort", 4)]) (g := gTup K 2 (gCons (gName 3) (gCons (gName 4) gNil))) (src := fm) (β := fun _ b => b = true) r rfl sc_law_values.nd (blkOk_by (N := ["_law_feed_here", "_law_lot_here", "_law_members", "_law_label", "_law_sort"]) (sc := defScope s_law_values) (by decide +kernel)) (src_tup (f := dFld) r (vr 1 r (mo_d r) h2)) (by omega)
      (fun _ d ⟨v, h, _⟩ => by subst h; exact nol_v _) (fun _ _ _ _ _ => pg_tup (X := _) rfl (pgs_cons (pg_name (i := 3) sc_law_values.nd rfl (.inl rfl)) (pgs_cons (pg_name (i := 4) sc_law_values.nd rfl (.inl rfl)) pgs_nil))) gm_2
      fun p z H2 hp r2 hz => g2 hz fun z1 z2 p1 p2 => ⟨rfl, r.refl _, fun _ _ _ _ _ => dts_nilN r fun _ h => h, fun H3 r3 _ _ _ _ _ => cR (f_law_fitting T) ⟨x, p.2, ms⟩ r (fun _ _ h => h) hr ⟨o1 p hp, o3⟩ (da_cons r mo_f (vrm 0 r mo_f ⟨rfl, hf⟩ (r.trans r2 r3)) (da_cons r (mo_d r) (vrm 4 r (mo_d r) p2 r3) (da_cons r (mo_d r) (vrm 2 r (mo_d r) h3 (r.trans r2 r3)) (da_nil r))))⟩)) (fun v H' _ ⟨ds, pk, hz⟩ => ?_) r) r fun v' H4 r4 q => hQ v' H4 r4 q
  obtain ⟨zs, h1, h2, h3⟩ := Pick.full (fun _ h => by cases h) pk
  refine ⟨zs.map (·.2), ⟨by rw [List.length_map, ← h1, List.length_map], fun i p v hp hv => ?_⟩, ?_⟩
  · rw [← h1] at hp
    obtain ⟨z, hz1, rfl⟩ := map_get hp
    obtain ⟨z', hz2, rfl⟩ := map_get hv
    rw [hz1] at hz2
    cases hz2
    exact h3 z (List.mem_of_getElem? hz1)
  · rw [List.map_map]
    have := fz_dp hz
    rw [h2] at this
    exact this
end
end Lf
set_option maxHeartbeats 4000000
/-! Fd5: a store. -/
namespace Lf
open PySem PySem.Spec L2
open PyProof.Rows hiding St wpAt wpAt_bind wpAt_mono
theorem up_labs : Up labs := by unfold labs Up; decide +kernel
theorem nm_k : nmOk "k" := ⟨by decide, by decide, by decide⟩
theorem nm_n : nmOk "n" := ⟨by decide, by decide, by decide⟩
theorem nm_to : nmOk "to" := ⟨by decide, by decide, by decide⟩
theorem nm_w : nmOk "w" := ⟨by decide, by decide, by decide⟩
theorem nm_q : nmOk "q" := ⟨by decide, by decide, by decide⟩
theorem nm_z : nmOk "z" := ⟨by decide, by decide, by decide⟩
theorem nm_zz : nmOk "zz" := ⟨by decide, by decide, by decide⟩
theorem nm_zs : nmOk "zzzzzzzz" := ⟨by decide, by decide, by decide⟩
theorem nm_a : nmOk "a" := ⟨by decide, by decide, by decide⟩
theorem nm_get : nmOk "get" := ⟨by decide, by decide, by decide⟩
theorem nm_lid : nmOk "lid" := ⟨by decide, by decide, by decide⟩
theorem lab_nm {x : Str} (h : x ∈ labs) : nmOk x := by
  simp only [labs, List.mem_cons, List.not_mem_nil, or_false] at h
  rcases h with rfl | rfl | rfl | rfl
  · exact nm_k
  · exact nm_n
  · exact nm_to
  · exact nm_w
theorem cn_nm {ns : List Str} (h : ns ∈ cnames) {c : Str} (hc : c ∈ ns) : nmOk c := by
  simp only [cnames, List.mem_cons, List.not_mem_nil, or_false] at h
  rcases h with rfl | rfl | rfl <;> simp only [List.mem_cons, List.not_mem_nil, or_false] at hc
  · subst hc; exact nm_a
  · rcases hc with rfl | rfl
    · exact nm_a
    · exact nm_get
  · rcases hc with rfl | rfl | rfl
    · exact nm_a
    · exact nm_get
    · exact nm_lid
theorem cn_up {ns : List Str} (h : ns ∈ cnames) : Up ns := by
  simp only [cnames, List.mem_cons, List.not_mem_nil, or_false] at h
  rcases h with rfl | rfl | rfl <;> (unfold Up; decide +kernel)
theorem lot_up {ns : List Str} {fm : Form} (h : LotOk ns fm) : Up (fm.map (·.1)) := List.Pairwise.sublist h.sub up_labs
theorem lot_len {ns : List Str} {fm : Form} (h : LotOk ns fm) : fm.length ≤ 4 := by
  have := h.sub.length_le
  rw [List.length_map] at this
  exact this
theorem lot_form {ns : List Str} {fm : Form} (hn : ns ∈ cnames) (h : LotOk ns fm) : formOk fm := by
  refine ⟨fun p hp => ⟨lab_nm (h.sub.subset (List.mem_map_of_mem hp)), ?_⟩, up_rising.mpr (lot_up h), by have := lot_len h; omega⟩
  rcases h.kd p hp with ⟨lo, hi, e, l, _⟩ | ⟨c, hc, e⟩
  · rw [e]; exact l
  · rw [e]; exact cn_nm hn hc
theorem lot_ft {ns : List Str} {fm : Form} (h : LotOk ns fm) : ∀ p ∈ fm, ftOk p.2 := by
  intro p hp lo hi e
  rcases h.kd p hp with ⟨lo', hi', e', l⟩ | ⟨c, hc, e'⟩
  · rw [e'] at e; cases e; exact ⟨l.1, by omega⟩
  · rw [e'] at e; cases e
theorem SchOk.up {sch : Sch} (h : SchOk sch) : Up (sch.map (·.1)) := cn_up h.names
theorem SchOk.nd {sch : Sch} (h : SchOk sch) : (sch.map (·.1)).Nodup := up_nodup h.up
theorem SchOk.len {sch : Sch} (h : SchOk sch) : sch.length ≤ 3 := by
  have := (cn_len h.names).2
  rwa [List.length_map] at this
theorem SchOk.lot {sch : Sch} (h : SchOk sch) {c : Str} {fm : Form} (e : fnd c sch = some fm) : LotOk (sch.map (·.1)) fm := h.lots _ (fnd_in e)
theorem SchOk.got {sch : Sch} {c : Str} (hc : c ∈ sch.map (·.1)) : ∃ fm, fnd c sch = some fm := Option.isSome_iff_exists.mp (fnd_isSome.mpr hc)
/-- a store of the law -/
structure HoOk (st : Sto) : Prop where
  sch : SchOk st.sch
  sto : StoOk st
  few : st.obs.length ≤ 6
section
variable {P : Program} {w : World} {K : Fg} {mg : Str → Option Value} {base : Heap}
abbrev spHouse (K : Fg) : Sp := spT (fun y : FdX × Sch => RF K y.1) (fun y => SchOk y.2) (fun y => [Hf K y.1, Hs K y.2, Hd K (.int 6)]) (fun y v H' => ∃ st, st.sch = y.2 ∧ HoOk st ∧ HSto K st v H')
/-- an entry of dict(schema) -/
theorem de_dget {X : Cx} {R : Rel} {σ : St} {H : Hp} {a b : Expr} {pos p p2 : Pos} {sch : Sch} {c : Str} {fm : Form} {j : Nat} (r : Rl R) (hr : Room j X.A) (hc : X.calm = true) (hg : Gl X "dict") (hm : X.mg "dict" = none) (nd : (sch.map (·.1)).Nodup) (fk : fnd c sch = some fm) (ha : ∀ H1, R H H1 → PE X a (tG Ex σ H1 (Hs X.K sch))) (hb : ∀ H1, R H H1 → PE X b (tG Ex σ H1 (Hd X.K (.str c))))
    (he : starEach [a] X.env = (false, eval a X.env) :: starEach [] X.env := by rfl) (hs : NoSl b := by exact fun _ _ => rfl) : PE X (.Subscript (.Call (.Name "dict" p) [a] [] p2) b pos) (tG R σ H (Hd X.K (dForm fm))) :=
  de_up r fun H1 h1 => de_getD hr (de_dictF (f := dForm) hc hg hm (ha H1 h1) nd he) (hb H1 h1) key_str (by rw [fndK_of, fk]; rfl) hs
theorem f_law_house (T : Tx K mg) : Fnc P w K mg base 5 "_law_house" (spHouse K) := by
  refine ⟨T.g_law_house, fna_of T.d_law_house sc_law_house bn_law_house (fun _ => rfl) fun cdv A0 outer s H E y vs Q hr ok ha hQ => ?_⟩
  obtain ⟨x, sch⟩ := y
  obtain ⟨v, u, t, rfl, hf, h2, h3⟩ := all3 ha
  have ok : SchOk sch := ok
  have h2 : Hs K sch u H := h2
  obtain rfl := dp_int h3
  have r := rlRF K x
  have big : 1000 ≤ sizeLine := by decide
  obtain ⟨rfl, hf⟩ := hf
  obtain ⟨n0, n3⟩ := cn_len ok.names
  have sl := ok.len
  refine bs_asg (g := gTup K 2 (gCons (gName 3) (gCons (gName 4) gNil))) r (pg_tup (X := _) rfl (pgs_cons (pg_name (i := 3) sc_law_house.nd rfl (.inr rfl)) (pgs_cons (pg_name (i := 4) sc_law_house.nd rfl (.inl rfl)) pgs_nil))) (de_tupE (φs := [Hd K (.list (sch.map fun p => PyData.str p.1)), HI K fun i => 0 ≤ i ∧ i < 7]) r
    (da_cons r (mo_d r) (de_lcM (own := [("_law_own", 8), ("_law_lot_here", 9)]) (g := gTup K 2 (gCons (gName 8) (gCons (gName 9) gNil))) (src := sch) (eo := fun p => PyData.str p.1) r rfl sc_law_house.nd (blkOk_by (N := ["_law_feed_here", "_law_classes_here", "_law_most", "_law_names", "_law_count", "_law_members", "_law_things", "_law_n", "_law_own", "_law_lot_here"]) (sc := defScope s_law_house) (by decide +kernel)) (src_tup (f := dCls) r (vr 1 r (mo_d r) (hs_dp h2))) (by omega) (fun _ _ => rfl)
        (fun _ _ _ _ _ => pg_tup (X := _) rfl (pgs_cons (pg_name (i := 8) sc_law_house.nd rfl (.inl rfl)) (pgs_cons (pg_name (i := 9) sc_law_house.nd rfl (.inl rfl)) pgs_nil))) gm_2 fun p z H2 hp r2 hz => g2 hz fun z1 z2 p1 p2 => ⟨rfl, r.refl _, fun H3 r3 _ _ _ _ _ => vrm 8 r (mo_d r) p1 r3⟩)
      (da_cons r (mo_he r) (cR (f_law_draw T) ⟨x, 7⟩ r (fun _ _ h => h) hr (dwok (by decide) (by decide)) (da_cons r mo_f (vr 0 r mo_f ⟨rfl, hf⟩) (da_cons r (mo_d r) (de_opI0 (m := 6) (n := 1) r op_add (vr 2 r (mo_d r) (.int 6)) (de_int r)) (da_nil r)))) (da_nil r)))
      (fun vs H' z => by rw [All2.length z]; show 2 ≤ sizeLine; decide) fun vs a b e z => by
        obtain ⟨u, t, rfl, z1, z2⟩ := all2 z
        exact ⟨u, _, rfl, rlEx.dp e z1, t, _, rfl, mo_he rlEx _ _ _ e z2, rfl⟩) fun pv H1 r1 ⟨q, vs, e, hq, z⟩ => ?_
  obtain ⟨nv, cv, rfl, q1, q2⟩ := all2 z
  subst e
  refine g2v (.inl (.inl hq)) ?_
  refine g1 (g1 ?_)
  obtain ⟨cnt, ⟨c0, c1⟩, rfl⟩ := hi_of q2
  obtain ⟨n, rfl⟩ := Int.eq_ofNat_of_zero_le c0
  have ln : n ≤ 6 := by omega
  have q1 : Dp K H1 nv (.list ((sch.map (·.1)).map PyData.str)) := by rw [List.map_map]; exact q1
  refine bs_set (i := 5) (φ := OLE K (Pick (fun _ _ => True) (Ty (fun n c => dMem (n, c)) fun _ c => c ∈ sch.map (·.1)) (List.range n))) r sc_law_house.nd rfl (.inr rfl) (de_lcN (own := [("_law_n", 7)]) (g := gName 7) (src := List.range n) (β := fun _ _ => True) (ε := Ty (fun n c => dMem (n, c)) fun _ c => c ∈ sch.map (·.1)) r rfl sc_law_house.nd (blkOk_by (N := ["_law_feed_here", "_law_classes_here", "_law_most", "_law_names", "_law_count", "_law_members", "_law_things", "_law_n", "_law_own", "_law_lot_here"]) (sc := defScope s_law_house) (by decide +kernel))
    (src_range (n := n) r (by rfl) (by exact T.z_range) (by omega) (vr 4 r (mo_d r) (.int _))) (by rw [List.length_range]; omega) (fun s d ⟨c, h, _⟩ => by subst h; exact nol_mem _) (fun _ _ _ _ _ => pg_name (i := 7) sc_law_house.nd rfl (.inl rfl)) gm_name (fun i z H2 hi r2 hz => ⟨rfl, r.refl _, fun _ _ _ _ _ => dts_oneN ?_, fun H3 r3 _ _ _ _ _ => ?_⟩)) fun mv H2 r2 q => ?_
  · refine dt_cmpN (φ := HI K fun i => 0 ≤ i ∧ i < 4) (ψ := Hd K (.int 0)) r op_gt (cR (f_law_draw T) ⟨x, 4⟩ r (fun _ _ h => h) hr (dwok (by decide) (by decide)) (da_cons r mo_f (vrm 0 r mo_f ⟨rfl, hf⟩ (r.trans r1 r2)) (da_cons r (mo_d r) (de_int r) (da_nil r)))) (mo_he r) (de_int r) (nomark _) fun a b H2 _ p q Q k => ?_
    obtain ⟨i, _, rfl⟩ := hi_of p
    obtain rfl := dp_int q
    exact ⟨i, 0, rfl, rfl, k _ H2 True.intro (r.refl _)⟩
  · have r13 := r.trans r1 (r.trans r2 r3)
    refine de_imp (de_tupE (φs := [Hd K (.int (i : Int)), HE K fun d => d ∈ (sch.map (·.1)).map PyData.str]) r (da_cons r (mo_d r) (vrm 7 r (mo_d r) hz r3) (da_cons r (mo_he r) (cR (f_law_any T) (x, (sch.map (·.1)).map PyData.str) r (fun _ _ h => h) hr ⟨fun z => n0 (List.map_eq_nil_iff.mp z), by show ((sch.map (·.1)).map PyData.str).length ≤ 1000; rw [List.length_map]; omega⟩ (da_cons r mo_f (vrm 0 r mo_f ⟨rfl, hf⟩ r13) (da_cons r (mo_d r) (vrm 3 r (mo_d r) q1 (r.trans r2 r3)) (da_nil r)))) (da_nil r)))
      (fun vs H' z => by rw [All2.length z]; show 2 ≤ sizeLine; decide) fun vs a b e z => ?_) (fun v H' _ ⟨p, vs, e, hp, z⟩ => ?_) r
    · obtain ⟨u, t, rfl, z1, z2⟩ := all2 z
      exact ⟨u, _, rfl, rlEx.dp e z1, t, _, rfl, mo_he rlEx _ _ _ e z2, rfl⟩
    · obtain ⟨u, t, rfl, z1, d, z2, z3⟩ := all2 z
      obtain ⟨c, hc, rfl⟩ := List.mem_map.mp z2
      subst e
      exact ⟨_, ⟨c, rfl, hc⟩, .tup (.inl (.inl hp)) (.cons z1 (.cons z3 .nil))⟩
  obtain ⟨ds, pk, q⟩ := ole_dp q
  obtain ⟨ms, m1, rfl, m3⟩ := pk.pairs
  have q : Dp K H2 mv (.list (ms.map dMem)) := q
  have lm : ms.length ≤ 6 := by
    have := m1.length_le
    rw [List.length_map, List.length_range] at this
    omega
  have r12 := r.trans r1 r2
  refine bs_setLcN (i := 6) (own := [("_law_n", 7), ("_law_own", 8)]) (g := gTup K 2 (gCons (gName 7) (gCons (gName 8) gNil))) (src := ms) (β := fun _ b => b = true) (ε := Ty (fun (m : Mem) vs => dOb ⟨m.1, m.2, vs⟩) fun m vs => ∃ fm, fnd m.2 sch = some fm ∧ valsOk fm vs) r rfl sc_law_house.nd rfl rfl (sw_true rfl rfl rfl (by decide +kernel)) (blkOk_by (N := ["_law_feed_here", "_law_classes_here", "_law_most", "_law_names", "_law_count", "_law_members", "_law_things", "_law_n", "_law_own", "_law_lot_here"]) (sc := defScope s_law_house) (by decide +kernel))
    (src_lst (f := dMem) r (vr 5 r (mo_d r) q)) (by omega) (fun s d ⟨c, h, _⟩ => by subst h; exact nol_ob _) (fun _ _ _ _ _ => pg_tup (X := _) rfl (pgs_cons (pg_name (i := 7) sc_law_house.nd rfl (.inl rfl)) (pgs_cons (pg_name (i := 8) sc_law_house.nd rfl (.inl rfl)) pgs_nil))) gm_2 (fun m z H3 hm r3 hz => g2 hz fun z1 z2 p1 p2 => ⟨rfl, r.refl _, fun _ _ _ _ _ => dts_nilN r fun _ h => h, fun H4 r4 _ _ _ _ _ => ?_⟩) fun tv H3 r3 q3 => ?_
  · obtain ⟨fm, hfm⟩ := SchOk.got (m3 m hm)
    have lo := ok.lot hfm
    have r24 := r.trans r3 r4
    have r04 := r.trans r12 r24
    refine de_imp (de_tupE (φs := [Hd K (.int (m.1 : Int)), Hd K (.str m.2), fun v H' => ∃ vs : List Vl, valsOk fm vs ∧ Dp K H' v (.tuple (vs.map dV))]) r (da_cons r (mo_d r) (vrm 7 r (mo_d r) p1 r4) (da_cons r (mo_d r) (vrm 8 r (mo_d r) p2 r4) (da_cons r (fun _ _ _ e ⟨vs, z1, z2⟩ => ⟨vs, z1, r.dp e z2⟩)
      (cR (f_law_values T) ⟨x, fm, ms⟩ r (fun _ _ h => h) hr ⟨lot_ft lo, lot_len lo, lm⟩ (da_cons r mo_f (vrm 0 r mo_f ⟨rfl, hf⟩ r04) (da_cons r (mo_d r) (de_dget r hr rfl rfl T.z_dict ok.nd hfm (fun H5 r5 => vr 1 rlEx (mo_fz rlEx) (mo_fz r _ _ _ (r.trans r04 r5) h2)) fun H5 r5 => vd 8 (r.dp (r.trans r4 r5) p2)) (da_cons r (mo_d r) (vrm 5 r (mo_d r) q r24) (da_nil r))))) (da_nil r))))
      (fun vs H' z => by rw [All2.length z]; show 3 ≤ sizeLine; decide) fun vs a b e z => ?_) (fun v H' _ ⟨p, vs, e, hp, z⟩ => ?_) r
    · obtain ⟨u, t, y, rfl, z1, z2, vs, z3, z4⟩ := all3 z
      exact ⟨u, _, rfl, rlEx.dp e z1, t, _, rfl, rlEx.dp e z2, y, _, rfl, ⟨vs, z3, rlEx.dp e z4⟩, rfl⟩
    · obtain ⟨u, t, y, rfl, z1, z2, vs, z3, z4⟩ := all3 z
      subst e
      exact ⟨_, ⟨vs, rfl, fm, hfm, z3⟩, .tup (.inl (.inl hp)) (.cons z1 (.cons z2 (.cons z4 .nil)))⟩
  obtain ⟨ds, pk, q3⟩ := ole_dp q3
  obtain ⟨zs, z1, rfl, z3⟩ := Pick.full (fun _ h => by cases h) pk
  have r03 := r.trans r12 r3
  have st : ∃ st : Sto, st = ⟨sch, n, zs.map fun z => ⟨z.1.1, z.1.2, z.2⟩⟩ := ⟨_, rfl⟩
  obtain ⟨st, hst⟩ := st
  have eob : st.obs.map dOb = zs.map fun z => dOb ⟨z.1.1, z.1.2, z.2⟩ := by rw [hst]; simp only [List.map_map]; rfl
  refine bs_ret (φ := HSto K st) (de_imp (de_tupE (φs := [Hs K sch, Hd K (.int (n : Int)), Hd K (.tuple (st.obs.map dOb))]) r (da_cons r (mo_fz r) (vr 1 r (mo_fz r) (mo_fz r _ _ _ r03 h2)) (da_cons r (mo_d r) (vr 4 r (mo_d r) (.int _)) (da_cons r (mo_d r) (de_tupleL r rfl T.z_tuple (vr 6 r (mo_d r) (by rw [eob]; exact q3))) (da_nil r))))
      (fun vs H' z => by rw [All2.length z]; show 3 ≤ sizeLine; decide) fun vs a b e z => ?_) (fun v H' _ ⟨p, vs, e, hp, z⟩ => ?_) r) r fun v' H4 r4 q => hQ v' H4 (r.trans r03 r4) ⟨st, by rw [hst], ⟨by rw [hst]; exact ok, ⟨by rw [hst]; exact ok.up, ?_, ?_, ?_, ?_⟩, ?_⟩, q⟩
  · obtain ⟨u, t, y, rfl, z1, z2, z3⟩ := all3 z
    exact ⟨u, _, rfl, mo_fz rlEx _ _ _ e z1, t, _, rfl, rlEx.dp e z2, y, _, rfl, rlEx.dp e z3, rfl⟩
  · obtain ⟨u, t, y, rfl, z1, z2, z3⟩ := all3 z
    obtain rfl := dp_int z2
    subst e
    refine ⟨p, u, y, rfl, ?_, by rw [hst]; exact z1, z3⟩
    rw [hst]
    exact .inl (.inl hp)
  · rw [hst]
    exact fun p hp => lot_form ok.names (ok.lots p hp)
  · rw [hst]
    intro o ho
    obtain ⟨z, hz, rfl⟩ := List.mem_map.mp ho
    exact z3 z hz
  · rw [hst]
    have e : (zs.map fun z => (⟨z.1.1, z.1.2, z.2⟩ : Ob)).map (·.n) = ms.map (·.1) := by
      rw [← z1]
      simp only [List.map_map]
      rfl
    show ((zs.map fun z => (⟨z.1.1, z.1.2, z.2⟩ : Ob)).map (·.n)).Nodup
    rw [e]
    exact List.Nodup.sublist m1 List.nodup_range
  · rw [hst]
    have : zs.length = ms.length := by rw [← z1, List.length_map]
    refine ⟨by show sch.length < 900; omega, ?_⟩
    show (zs.map _).length < 900
    rw [List.length_map]
    omega
  · rw [hst]
    have : zs.length = ms.length := by rw [← z1, List.length_map]
    show (zs.map _).length ≤ 6
    rw [List.length_map]
    omega
end
end Lf
set_option maxHeartbeats 4000000
/-! Mth2: one class of a store converted by entries. -/
namespace Lf
open PySem PySem.Spec L2
open PyProof.Rows hiding St wpAt wpAt_bind wpAt_mono
/-! ### look-ups in entries -/
theorem fnd_kept {fm : Form} {f : Str} : fnd f (keptE fm) = (fnd f fm).map fun k => (k, keptX f k) := by
  induction fm with
  | nil => rfl
  | cons p l ih =>
    show fnd f ((p.1, (p.2, keptX p.1 p.2)) :: keptE l) = _
    rw [fnd_cons, fnd_cons, ih]
    by_cases h : p.1 = f
    · subst h
      rw [if_pos rfl, if_pos rfl]
      rfl
    · rw [if_neg h, if_neg h]
theorem fnd_filter {α : Type} {f : Str} {q : Str → Bool} : ∀ {l : AL α}, fnd f (l.filter fun p => q p.1) = if q f = true then fnd f l else none
  | [] => by simp [fnd]
  | p :: l => by
    rw [List.filter_cons, fnd_cons]
    by_cases hq : q p.1 = true
    · rw [if_pos hq, fnd_cons, fnd_filter]
      by_cases h : p.1 = f
      · subst h
        rw [if_pos rfl, if_pos rfl, if_pos hq]
      · rw [if_neg h, if_neg h]
    · rw [if_neg hq, fnd_filter]
      by_cases h : p.1 = f
      · subst h
        rw [if_neg hq, if_neg hq]
      · rw [if_neg h]
theorem fnd_wi {f g : Str} {x : Ent} {es : AL Ent} : fnd f (wiE g x es) = if f = g then some x else fnd f es := fnd_put
theorem fnd_wo {f g : Str} {es : AL Ent} : fnd f (woE g es) = if f = g then none else fnd f es := by
  unfold woE
  rw [fnd_filter (q := fun s => !decide (s = g))]
  by_cases h : f = g <;> simp [h]
theorem fnd_ren {f o n : Str} {es : AL Ent} : fnd f (renE o n es) = if (fnd o es).isNone then fnd f es else if f = n then fnd o es else if f = o then none else fnd f es := by
  unfold renE
  cases h : fnd o es with
  | none => rfl
  | some x =>
    show fnd f (putS _ n x) = _
    rw [fnd_put, fnd_filter (q := fun s => !(decide (s = o) || decide (s = n)))]
    by_cases h1 : f = n
    · simp [h1]
    · by_cases h2 : f = o <;> simp [h1, h2]
theorem map_ren {α : Type} {φ ψ : Ent → α} {es es' : AL Ent} (h : ∀ g, (fnd g es).map φ = (fnd g es').map ψ) (o n f : Str) : (fnd f (renE o n es)).map φ = (fnd f (renE o n es')).map ψ := by
  have e : (fnd o es).isNone = (fnd o es').isNone := by
    have := congrArg Option.isNone (h o)
    simpa using this
  rw [fnd_ren, fnd_ren, e]
  by_cases h1 : (fnd o es').isNone = true
  · rw [if_pos h1, if_pos h1]
    exact h f
  · rw [if_neg h1, if_neg h1]
    by_cases h2 : f = n
    · rw [if_pos h2, if_pos h2]
      exact h o
    · rw [if_neg h2, if_neg h2]
      by_cases h3 : f = o
      · rw [if_pos h3, if_pos h3]
        rfl
      · rw [if_neg h3, if_neg h3]
        exact h f
theorem kept_nd {fm : Form} (h : (fm.map (·.1)).Nodup) : ((keptE fm).map (·.1)).Nodup := by rw [kept_keys]; exact h
theorem keptE_len {fm : Form} : (keptE fm).length = fm.length := List.length_map ..
theorem sort_ext {α : Type} {l m : AL α} (a : (l.map (·.1)).Nodup) (b : (m.map (·.1)).Nodup) (h : ∀ f, fnd f l = fnd f m) : sortS l = sortS m :=
  al_ext (sort_up a) (sort_up b) fun c => by rw [sort_fnd a, sort_fnd b, h]
theorem sort_kept {fm : Form} (u : Up (fm.map (·.1))) : sortS (keptE fm) = keptE fm := sort_same (by rw [kept_keys]; exact u)
theorem form_kept {fm : Form} (u : Up (fm.map (·.1))) : enForm (keptE fm) = fm := by
  unfold enForm
  rw [sort_kept u]
  unfold keptE
  rw [List.map_map]
  exact List.map_id _
theorem fnd_mapv {α β : Type} {f : Str} {g : α → β} : ∀ {l : AL α}, fnd f (l.map fun p => (p.1, g p.2)) = (fnd f l).map g
  | [] => rfl
  | p :: l => by
    rw [List.map_cons, fnd_cons, fnd_cons, fnd_mapv]
    by_cases h : p.1 = f
    · rw [if_pos h, if_pos h]; rfl
    · rw [if_neg h, if_neg h]
theorem enForm_keys {es : AL Ent} : (enForm es).map (·.1) = (sortS es).map (·.1) := by
  unfold enForm
  rw [List.map_map]
  rfl
theorem enForm_up {es : AL Ent} (h : (es.map (·.1)).Nodup) : Up ((enForm es).map (·.1)) := by rw [enForm_keys]; exact sort_up h
theorem enForm_len {es : AL Ent} : (enForm es).length = es.length := by
  unfold enForm
  rw [List.length_map]
  exact (sort_perm es).length_eq
theorem fnd_enForm {es : AL Ent} {f : Str} (h : (es.map (·.1)).Nodup) : fnd f (enForm es) = (fnd f es).map (·.1) := by
  unfold enForm
  rw [fnd_mapv (g := fun e : Ent => e.1), sort_fnd h]
theorem form_ext {es es' : AL Ent} (a : (es.map (·.1)).Nodup) (b : (es'.map (·.1)).Nodup) (h : ∀ f, (fnd f es).map (·.1) = (fnd f es').map (·.1)) : enForm es = enForm es' :=
  al_ext (enForm_up a) (enForm_up b) fun c => by rw [fnd_enForm a, fnd_enForm b, h]
/-! ### a store converted -/
structure Wf (st : Sto) : Prop where
  sto : StoOk st
  lk : ∀ p ∈ st.sch, ∀ q ∈ p.2, ∀ d, q.2 = .cls d → d ∈ st.sch.map (·.1)
  nm : ∀ p ∈ st.sch, nmOk p.1
  len : ∀ p ∈ st.sch, p.2.length ≤ 8
  few : st.sch.length ≤ 3 ∧ st.obs.length ≤ 6
def enRow (c : Str) (es : AL Ent) : Row := ⟨c, enForm es, some (enEx es)⟩
def conSto (st : Sto) (c : Str) (es : AL Ent) : Sto := chSto st [enRow c es]
structure Fit (st : Sto) (c : Str) (es : AL Ent) : Prop where
  nd : (es.map (·.1)).Nodup
  few : es.length ≤ 8
  nm : ∀ p ∈ es, nmOk p.1
  kd : ∀ p ∈ es, kdOk p.2.1
  lk : ∀ p ∈ es, ∀ d, p.2.1 = .cls d → d ∈ st.sch.map (·.1)
  su : ∀ p ∈ es, suits st.sch c p.2.1 p.2.2
def vw (row : AL Vl) (e : Ent) : Vl := clampV e.1 (evE row e.2)
theorem mem_sort {α : Type} {l : AL α} {p : Str × α} : p ∈ sortS l ↔ p ∈ l := (sort_perm l).mem_iff
theorem enEx_len {es : AL Ent} : (enEx es).length = es.length := by
  unfold enEx
  rw [List.length_map]
  exact (sort_perm es).length_eq
theorem Fit.form {st : Sto} {c : Str} {es : AL Ent} (f : Fit st c es) : formOk (enForm es) := by
  refine ⟨fun p hp => ?_, up_rising.mpr (enForm_up f.nd), by rw [enForm_len]; have := f.few; omega⟩
  obtain ⟨q, hq, rfl⟩ := List.mem_map.mp hp
  exact ⟨f.nm q (mem_sort.mp hq), f.kd q (mem_sort.mp hq)⟩
theorem Wf.got {st : Sto} (w : Wf st) {c : Str} (hc : c ∈ st.sch.map (·.1)) : nmOk c := by
  obtain ⟨p, hp, rfl⟩ := List.mem_map.mp hc
  exact w.nm p hp
theorem con_ch {st : Sto} {c : Str} {es : AL Ent} (w : Wf st) (hc : c ∈ st.sch.map (·.1)) (f : Fit st c es) : ChOk st.sch [enRow c es] := by
  have one : ∀ {r}, r ∈ [enRow c es] → r = enRow c es := fun h => List.mem_singleton.mp h
  refine ⟨fun r hr => ?_, ⟨up_nodup w.sto.up, rfl, fun r hr => ?_, by show 1 < 1000; decide⟩, fun r hr p hp d hd => ?_, fun r hr l hl i e he => ?_, by show st.sch.length + 1 < 1000; have := w.few.1; omega⟩
  · rw [one hr]
    exact ⟨w.got hc, f.form⟩
  · rw [one hr]
    refine ⟨?_, fun l hl => ?_⟩
    · show (fnd c st.sch).isSome = true
      exact fnd_isSome.mpr hc
    · cases hl
      show (enEx es).length = (enForm es).length
      rw [enEx_len, enForm_len]
  · rw [one hr] at hp
    obtain ⟨q, hq, rfl⟩ := List.mem_map.mp hp
    exact List.mem_append_left _ (f.lk q (mem_sort.mp hq) d hd)
  · rw [one hr] at hl ⊢
    cases hl
    obtain ⟨q, hq, rfl⟩ := map_get he
    refine ⟨(q.1, q.2.1), ?_, f.kd q (mem_sort.mp (List.mem_of_getElem? hq)), f.su q (mem_sort.mp (List.mem_of_getElem? hq))⟩
    show ((sortS es).map fun p => (p.1, p.2.1))[i]? = _
    rw [List.getElem?_map, hq]
    rfl
theorem con_sch {st : Sto} {c : Str} {es : AL Ent} (w : Wf st) (hc : c ∈ st.sch.map (·.1)) : (conSto st c es).sch = setS st.sch c (enForm es) := after_one (r := enRow c es) w.sto.up hc
theorem con_names {st : Sto} {c : Str} {es : AL Ent} (w : Wf st) (hc : c ∈ st.sch.map (·.1)) : (conSto st c es).sch.map (·.1) = st.sch.map (·.1) := by rw [con_sch w hc, set_keys]
theorem con_fm {st : Sto} {c d : Str} {es : AL Ent} (w : Wf st) (hc : c ∈ st.sch.map (·.1)) : fnd d (conSto st c es).sch = if d = c then some (enForm es) else fnd d st.sch := by
  rw [con_sch w hc, fnd_set hc]
theorem newVals_eq {st : Sto} {o : Ob} {c : Str} {es : AL Ent} : newVals st o (enRow c es) = (sortS es).map fun p => vw (rowAt st o) p.2 := by
  show (List.zip ((sortS es).map fun p => (p.1, p.2.1)) ((sortS es).map fun p => p.2.2)).map _ = _
  rw [List.zip_map', List.map_map]
  rfl
def conOb (st : Sto) (c : Str) (es : AL Ent) (o : Ob) : Ob := if o.c = c then ⟨o.n, o.c, (sortS es).map fun p => vw (rowAt st o) p.2⟩ else o
theorem con_obs {st : Sto} {c : Str} {es : AL Ent} : (conSto st c es).obs = st.obs.map (conOb st c es) := by
  show st.obs.map (chOb st [enRow c es]) = _
  refine List.map_congr_left fun o _ => ?_
  unfold chOb conOb
  have e : fnd o.c (rowsAL [enRow c es]) = if c = o.c then some (enRow c es) else none := rfl
  rw [e]
  by_cases h : o.c = c
  · rw [if_pos h.symm, if_pos h]
    show (⟨o.n, o.c, newVals st o (enRow c es)⟩ : Ob) = _
    rw [newVals_eq]
  · rw [if_neg (fun z => h z.symm), if_neg h]
theorem conOb_c {st : Sto} {c : Str} {es : AL Ent} {o : Ob} : (conOb st c es o).c = o.c := by unfold conOb; split <;> rfl
theorem conOb_n {st : Sto} {c : Str} {es : AL Ent} {o : Ob} : (conOb st c es o).n = o.n := by unfold conOb; split <;> rfl
theorem row_sorted {es : AL Ent} {g : Ent → Vl} : rowOf (enForm es) ((sortS es).map fun p => g p.2) = (sortS es).map fun p => (p.1, g p.2) := by
  unfold rowOf enForm
  rw [List.zip_map', List.map_map]
  rfl
/-- the row behind -/
theorem con_row {st : Sto} {c : Str} {es : AL Ent} {o : Ob} (w : Wf st) (hc : c ∈ st.sch.map (·.1)) (h : o.c = c) : rowAt (conSto st c es) (conOb st c es o) = (sortS es).map fun p => (p.1, vw (rowAt st o) p.2) := by
  have e : fmAt (conSto st c es) (conOb st c es o) = enForm es := by
    unfold fmAt
    rw [conOb_c, h, con_fm w hc, if_pos rfl]
    rfl
  unfold rowAt
  rw [e]
  unfold conOb
  rw [if_pos h]
  exact row_sorted
theorem clamp_ok {k : Kd} {v : Vl} (h : vlOk k v) : clampV k v = v := by
  cases k with
  | rng lo hi =>
    cases v with
    | none => rfl
    | some i =>
      obtain ⟨h1, h2⟩ := h
      show some (max lo (min hi i)) = some i
      congr 1
      omega
  | cls c => rfl
theorem vl_clamp {k : Kd} {v : Vl} (hk : kdOk k) (h : isRng k = true → ∃ i, v = some i) : vlOk k (clampV k v) := by
  cases k with
  | rng lo hi =>
    obtain ⟨i, rfl⟩ := h rfl
    have hk : lo ≤ hi := hk
    show lo ≤ max lo (min hi i) ∧ max lo (min hi i) ≤ hi
    omega
  | cls c => exact True.intro
theorem clamp_clamp {k : Kd} {v : Vl} (hk : kdOk k) : clampV k (clampV k v) = clampV k v := by
  cases k with
  | rng lo hi =>
    cases v with
    | none => rfl
    | some i =>
      have hk : lo ≤ hi := hk
      show some (max lo (min hi (max lo (min hi i)))) = some (max lo (min hi i))
      congr 1
      omega
  | cls c => rfl
theorem vw_ok {st : Sto} {o : Ob} {e : Ent} (w : Wf st) (ho : o ∈ st.obs) (hk : kdOk e.1) (hs : suits st.sch o.c e.1 e.2) : vlOk e.1 (vw (rowAt st o) e) := by
  obtain ⟨_, h2⟩ := fit_ev w.sto ho hs
  refine vl_clamp hk fun hr => ?_
  cases h : e.1 with
  | rng lo hi =>
    rw [h] at h2
    exact h2.2
  | cls c => rw [h] at hr; cases hr
theorem con_wf {st : Sto} {c : Str} {es : AL Ent} (w : Wf st) (hc : c ∈ st.sch.map (·.1)) (f : Fit st c es) : Wf (conSto st c es) := by
  have nms := con_names (es := es) w hc
  have mem : ∀ p ∈ (conSto st c es).sch, p = (c, enForm es) ∨ p ∈ st.sch := fun p hp => by
    rw [con_sch w hc] at hp
    obtain ⟨q, hq, e⟩ := List.mem_map.mp hp
    by_cases h : q.1 = c
    · rw [if_pos h] at e
      exact .inl (by rw [← e, h])
    · rw [if_neg h] at e
      exact .inr (e ▸ hq)
  refine ⟨⟨by rw [nms]; exact w.sto.up, fun p hp => ?_, fun o ho => ?_, ?_, ?_⟩, fun p hp q hq d hd => ?_, fun p hp => ?_, fun p hp => ?_, ?_⟩
  · rcases mem p hp with rfl | h
    · exact f.form
    · exact w.sto.forms p h
  · rw [con_obs] at ho
    obtain ⟨o', ho', rfl⟩ := List.mem_map.mp ho
    obtain ⟨fm, h1, h2⟩ := w.sto.obs o' ho'
    rw [conOb_c, con_fm w hc]
    by_cases h : o'.c = c
    · refine ⟨enForm es, if_pos h, ?_⟩
      unfold conOb
      rw [if_pos h]
      refine ⟨by rw [List.length_map, enForm, List.length_map], fun i p v hp hv => ?_⟩
      obtain ⟨q, hq, rfl⟩ := map_get hp
      obtain ⟨q', hq', rfl⟩ := map_get hv
      rw [hq] at hq'
      cases hq'
      have hm := mem_sort.mp (List.mem_of_getElem? hq)
      exact vw_ok w ho' (f.kd q hm) (by rw [h]; exact f.su q hm)
    · rw [if_neg h]
      unfold conOb
      rw [if_neg h]
      exact ⟨fm, h1, h2⟩
  · rw [con_obs, List.map_map]
    have e : st.obs.map ((fun o => o.n) ∘ conOb st c es) = st.obs.map (·.n) := List.map_congr_left fun o _ => conOb_n
    rw [e]
    exact w.sto.nums
  · have h1 : (conSto st c es).sch.length = st.sch.length := by
      have := congrArg List.length nms
      simpa using this
    rw [h1, con_obs, List.length_map]
    exact w.sto.few
  · rw [nms]
    rcases mem p hp with rfl | h
    · obtain ⟨z, hz, rfl⟩ := List.mem_map.mp hq
      exact f.lk z (mem_sort.mp hz) d hd
    · exact w.lk p h q hq d hd
  · rcases mem p hp with rfl | h
    · exact w.got hc
    · exact w.nm p h
  · rcases mem p hp with rfl | h
    · show (enForm es).length ≤ 8
      rw [enForm_len]
      exact f.few
    · exact w.len p h
  · have h1 : (conSto st c es).sch.length = st.sch.length := by
      have := congrArg List.length nms
      simpa using this
    rw [h1, con_obs, List.length_map]
    exact w.few
/-! ### laws of conversion -/
theorem con_ext {st : Sto} {c : Str} {es es' : AL Ent} (a : (es.map (·.1)).Nodup) (b : (es'.map (·.1)).Nodup) (h : ∀ f, fnd f es = fnd f es') : conSto st c es = conSto st c es' := by
  unfold conSto enRow enForm enEx
  rw [sort_ext a b h]
theorem evE_kept {row : AL Vl} {f : Str} {k : Kd} : evE row (keptX f k) = (fnd f row).getD none := by cases k <;> rfl
theorem kept_row {st : Sto} {o : Ob} {fm : Form} (w : Wf st) (ho : o ∈ st.obs) (hf : fnd o.c st.sch = some fm) : (fm.map fun p => vw (rowAt st o) (p.2, keptX p.1 p.2)) = o.vs := by
  obtain ⟨fm', h1, h2, h3⟩ := w.sto.obs o ho
  rw [hf] at h1
  cases h1
  have up : (fm.map (·.1)).Nodup := form_nodup (w.sto.forms (o.c, fm) (fnd_in hf))
  have er : rowAt st o = rowOf fm o.vs := by unfold rowAt fmAt; rw [hf]; rfl
  refine List.ext_getElem? fun i => ?_
  rw [List.getElem?_map]
  cases hi : fm[i]? with
  | none =>
    have : o.vs.length ≤ i := by rw [h2]; exact List.getElem?_eq_none_iff.mp hi
    rw [List.getElem?_eq_none_iff.mpr this]
    rfl
  | some p =>
    have li : i < fm.length := (List.getElem?_eq_some_iff.mp hi).1
    have lv : i < o.vs.length := by omega
    have hv : o.vs[i]? = some o.vs[i] := List.getElem?_eq_getElem lv
    rw [hv]
    have ok := h3 i p _ hi hv
    show some (vw (rowAt st o) (p.2, keptX p.1 p.2)) = _
    congr 1
    show clampV p.2 (evE (rowAt st o) (keptX p.1 p.2)) = _
    rw [evE_kept, er]
    have e : fnd p.1 (rowOf fm o.vs) = some o.vs[i] := by
      refine fnd_of (by rw [rowOf_keys h2]; exact up) ?_
      unfold rowOf
      refine List.mem_map.mpr ⟨(p, o.vs[i]), ?_, rfl⟩
      exact List.mem_of_getElem? (zip_at hi hv)
    rw [e]
    exact clamp_ok ok
theorem con_kept {st : Sto} {c : Str} {fm : Form} (w : Wf st) (hf : fnd c st.sch = some fm) : conSto st c (keptE fm) = st := by
  have hc : c ∈ st.sch.map (·.1) := fnd_key hf
  have up : Up (fm.map (·.1)) := up_rising.mp (w.sto.forms (c, fm) (fnd_in hf)).2.1
  have e1 : (conSto st c (keptE fm)).sch = st.sch := by
    rw [con_sch w hc, form_kept up]
    exact set_same w.sto.up hf
  have e2 : (conSto st c (keptE fm)).obs = st.obs := by
    rw [con_obs]
    have : st.obs.map (conOb st c (keptE fm)) = st.obs.map id := List.map_congr_left fun o ho => by
      unfold conOb
      by_cases h : o.c = c
      · rw [if_pos h, sort_kept up]
        have := kept_row w ho (by rw [h]; exact hf)
        unfold keptE
        rw [List.map_map]
        show (⟨o.n, o.c, fm.map fun p => vw (rowAt st o) (p.2, keptX p.1 p.2)⟩ : Ob) = o
        rw [this]
      · rw [if_neg h]
        rfl
    rw [this, List.map_id]
  calc conSto st c (keptE fm) = ⟨(conSto st c (keptE fm)).sch, st.lim, (conSto st c (keptE fm)).obs⟩ := rfl
    _ = st := by rw [e1, e2]
/-- kept, and a name given again, behind a conversion -/
theorem con_con {st : Sto} {c o n : Str} {es : AL Ent} (w : Wf st) (hc : c ∈ st.sch.map (·.1)) (f : Fit st c es) : conSto (conSto st c es) c (renE o n (keptE (enForm es))) = conSto st c (renE o n es) := by
  have w1 := con_wf w hc f
  have hc1 : c ∈ (conSto st c es).sch.map (·.1) := by rw [con_names w hc]; exact hc
  have ndk : ((keptE (enForm es)).map (·.1)).Nodup := kept_nd (up_nodup (enForm_up f.nd))
  have nd1 : ((renE o n (keptE (enForm es))).map (·.1)).Nodup := ren_nd ndk
  have nd2 : ((renE o n es).map (·.1)).Nodup := ren_nd f.nd
  have hk : ∀ g, fnd g (keptE (enForm es)) = (fnd g es).map fun e => (e.1, keptX g e.1) := fun g => by
    rw [fnd_kept, fnd_enForm f.nd, Option.map_map]
    rfl
  have ef : enForm (renE o n (keptE (enForm es))) = enForm (renE o n es) := form_ext nd1 nd2 (map_ren (fun g => by rw [hk, Option.map_map]; rfl) o n)
  have e1 : (conSto (conSto st c es) c (renE o n (keptE (enForm es)))).sch = (conSto st c (renE o n es)).sch := by
    rw [con_sch w1 hc1, con_sch w hc, con_sch w hc, set_set, ef]
  have e2 : (conSto (conSto st c es) c (renE o n (keptE (enForm es)))).obs = (conSto st c (renE o n es)).obs := by
    rw [con_obs, con_obs, con_obs, List.map_map]
    refine List.map_congr_left fun ob hob => ?_
    show conOb (conSto st c es) c (renE o n (keptE (enForm es))) (conOb st c es ob) = conOb st c (renE o n es) ob
    by_cases h : ob.c = c
    · have hrow : ∀ g, fnd g (rowAt (conSto st c es) (conOb st c es ob)) = (fnd g es).map (vw (rowAt st ob)) := fun g => by
        rw [con_row w hc h, fnd_mapv (g := vw (rowAt st ob)), sort_fnd f.nd]
      have key : (sortS (renE o n (keptE (enForm es)))).map (fun p => (p.1, vw (rowAt (conSto st c es) (conOb st c es ob)) p.2)) = (sortS (renE o n es)).map (fun p => (p.1, vw (rowAt st ob) p.2)) := by
        refine al_ext (by rw [List.map_map]; exact sort_up nd1) (by rw [List.map_map]; exact sort_up nd2) fun g => ?_
        rw [fnd_mapv (g := vw (rowAt (conSto st c es) (conOb st c es ob))), fnd_mapv (g := vw (rowAt st ob)), sort_fnd nd1, sort_fnd nd2]
        refine map_ren (fun g => ?_) o n g
        rw [hk, Option.map_map]
        cases hg : fnd g es with
        | none => rfl
        | some e =>
          show some (clampV e.1 (evE _ (keptX g e.1))) = some (vw (rowAt st ob) e)
          rw [evE_kept, hrow, hg]
          congr 1
          exact clamp_clamp (f.kd (g, e) (fnd_in hg))
      have key2 := congrArg (List.map (fun p : Str × Vl => p.2)) key
      rw [List.map_map, List.map_map] at key2
      generalize hX : conOb st c es ob = X at key2 ⊢
      have hXc : X.c = c := by rw [← hX, conOb_c]; exact h
      have hXn : X.n = ob.n := by rw [← hX, conOb_n]
      unfold conOb
      rw [if_pos h, if_pos hXc, hXn, hXc, h]
      congr 1
    · unfold conOb
      rw [if_neg h, if_neg h, if_neg h]
  show (⟨(conSto (conSto st c es) c (renE o n (keptE (enForm es)))).sch, st.lim, (conSto (conSto st c es) c (renE o n (keptE (enForm es)))).obs⟩ : Sto) = ⟨(conSto st c (renE o n es)).sch, st.lim, (conSto st c (renE o n es)).obs⟩
  rw [e1, e2]
/-! ### columns -/
def colOf (st : Sto) (c f : Str) : List Vl := (st.obs.filter fun o => decide (o.c = c)).map fun o => (fnd f (rowAt st o)).getD none
theorem col_con {st : Sto} {c f : Str} {es : AL Ent} (w : Wf st) (hc : c ∈ st.sch.map (·.1)) (nd : (es.map (·.1)).Nodup) : colOf (conSto st c es) c f = (st.obs.filter fun o => decide (o.c = c)).map fun o => ((fnd f es).map (vw (rowAt st o))).getD none := by
  unfold colOf
  rw [con_obs, List.filter_map, List.map_map]
  have e : (st.obs.filter ((fun o : Ob => decide (o.c = c)) ∘ conOb st c es)) = st.obs.filter fun o => decide (o.c = c) := List.filter_congr fun o _ => by
    show decide ((conOb st c es o).c = c) = _
    rw [conOb_c]
  rw [e]
  refine List.map_congr_left fun o ho => ?_
  have hoc : o.c = c := of_decide_eq_true (List.mem_filter.mp ho).2
  show (fnd f (rowAt (conSto st c es) (conOb st c es o))).getD none = _
  rw [con_row w hc hoc, fnd_mapv (g := vw (rowAt st o)), sort_fnd nd]
theorem kept_vw {st : Sto} {o : Ob} {fm : Form} {f : Str} {k : Kd} (w : Wf st) (ho : o ∈ st.obs) (hf : fnd o.c st.sch = some fm) (hk : fnd f fm = some k) : vw (rowAt st o) (k, keptX f k) = (fnd f (rowAt st o)).getD none := by
  obtain ⟨fm', h1, h2⟩ := w.sto.obs o ho
  rw [hf] at h1
  cases h1
  have er : rowAt st o = rowOf fm o.vs := by unfold rowAt fmAt; rw [hf]; rfl
  obtain ⟨v, h3, h4⟩ := rowOf_fnd h2 hk
  show clampV k (evE (rowAt st o) (keptX f k)) = _
  rw [evE_kept, er, h3]
  exact clamp_ok h4
/-- a field kept under some name has its values -/
theorem col_kept {st : Sto} {c f g : Str} {fm : Form} {k : Kd} {es : AL Ent} (w : Wf st) (hf : fnd c st.sch = some fm) (hk : fnd g fm = some k) (nd : (es.map (·.1)).Nodup) (he : fnd f es = some (k, keptX g k)) : colOf (conSto st c es) c f = colOf st c g := by
  rw [col_con w (fnd_key hf) nd, he]
  unfold colOf
  refine List.map_congr_left fun o ho => ?_
  obtain ⟨h1, h2⟩ := List.mem_filter.mp ho
  have hoc : o.c = c := of_decide_eq_true h2
  exact kept_vw w h1 (by rw [hoc]; exact hf) hk
theorem col_num {st : Sto} {c f : Str} {lo hi z : Int} {es : AL Ent} (w : Wf st) (hc : c ∈ st.sch.map (·.1)) (nd : (es.map (·.1)).Nodup) (he : fnd f es = some (.rng lo hi, .num z)) : colOf (conSto st c es) c f = List.replicate (st.obs.filter fun o => decide (o.c = c)).length (some (max lo (min hi z))) := by
  rw [col_con w hc nd, he]
  exact List.map_const ..
/-! ### what fits -/
theorem fit_kept {st : Sto} {c : Str} {fm : Form} (w : Wf st) (hf : fnd c st.sch = some fm) : Fit st c (keptE fm) := by
  have ok := w.sto.forms (c, fm) (fnd_in hf)
  have nd := form_nodup ok
  have mem : ∀ p ∈ keptE fm, ∃ q ∈ fm, p = (q.1, (q.2, keptX q.1 q.2)) := fun p hp => by
    obtain ⟨q, hq, rfl⟩ := List.mem_map.mp hp
    exact ⟨q, hq, rfl⟩
  refine ⟨kept_nd nd, by rw [keptE_len]; exact w.len (c, fm) (fnd_in hf), fun p hp => ?_, fun p hp => ?_, fun p hp d hd => ?_, fun p hp => ?_⟩
  · obtain ⟨q, hq, rfl⟩ := mem p hp
    exact (ok.1 q hq).1
  · obtain ⟨q, hq, rfl⟩ := mem p hp
    exact (ok.1 q hq).2
  · obtain ⟨q, hq, rfl⟩ := mem p hp
    exact w.lk (c, fm) (fnd_in hf) q hq d hd
  · obtain ⟨q, hq, rfl⟩ := mem p hp
    have at_ : kdAt st.sch c q.1 = some q.2 := by
      unfold kdAt
      rw [hf]
      exact fnd_of nd hq
    have nmq := (ok.1 q hq).1
    show suits st.sch c q.2 (keptX q.1 q.2)
    cases h : q.2 with
    | rng lo hi => exact ⟨nmq, rfl, lo, hi, by rw [at_, h]⟩
    | cls d => exact ⟨nmq, d, rfl, by rw [at_, h]⟩
theorem mem_put {α : Type} {l : AL α} {c : Str} {x : α} {p : Str × α} (h : p ∈ putS l c x) : p = (c, x) ∨ p ∈ l := by
  unfold putS at h
  split at h
  · obtain ⟨q, hq, rfl⟩ := List.mem_map.mp h
    by_cases e : q.1 = c
    · rw [if_pos e, e]; exact .inl rfl
    · rw [if_neg e]; exact .inr hq
  · rcases List.mem_append.mp h with h | h
    · exact .inr h
    · exact .inl (List.mem_singleton.mp h)
theorem fit_wi {st : Sto} {c g : Str} {lo hi z : Int} {es : AL Ent} (f : Fit st c es) (hl : es.length ≤ 7) (hg : nmOk g) (h : lo ≤ hi) : Fit st c (wiE g (.rng lo hi, .num z) es) := by
  have mem : ∀ p ∈ wiE g (.rng lo hi, .num z) es, p = (g, (.rng lo hi, .num z)) ∨ p ∈ es := fun p hp => mem_put hp
  refine ⟨wi_nd f.nd, by have := wi_len (f := g) (x := (.rng lo hi, .num z)) (es := es); omega, fun p hp => ?_, fun p hp => ?_, fun p hp d hd => ?_, fun p hp => ?_⟩ <;> rcases mem p hp with rfl | hq
  · exact hg
  · exact f.nm p hq
  · exact h
  · exact f.kd p hq
  · cases hd
  · exact f.lk p hq d hd
  · exact rfl
  · exact f.su p hq
theorem mem_ren {o n : Str} {es : AL Ent} {p : Str × Ent} (h : p ∈ renE o n es) : p ∈ es ∨ ∃ x, p = (n, x) ∧ (o, x) ∈ es := by
  unfold renE at h
  split at h
  · exact .inl h
  · rename_i x hx
    rcases mem_put h with rfl | h
    · exact .inr ⟨x, rfl, fnd_in hx⟩
    · exact .inl (List.mem_filter.mp h).1
theorem fit_ren {st : Sto} {c o n : Str} {es : AL Ent} (f : Fit st c es) (hl : es.length ≤ 7) (hn : nmOk n) : Fit st c (renE o n es) := by
  refine ⟨ren_nd f.nd, by have := ren_len (o := o) (n := n) (es := es); omega, fun p hp => ?_, fun p hp => ?_, fun p hp d hd => ?_, fun p hp => ?_⟩ <;> rcases mem_ren hp with hq | ⟨x, rfl, hq⟩
  · exact f.nm p hq
  · exact hn
  · exact f.kd p hq
  · exact f.kd (o, x) hq
  · exact f.lk p hq d hd
  · exact f.lk (o, x) hq d hd
  · exact f.su p hq
  · exact f.su (o, x) hq
theorem fit_wo {st : Sto} {c g : Str} {es : AL Ent} (f : Fit st c es) : Fit st c (woE g es) := by
  have mem : ∀ p ∈ woE g es, p ∈ es := fun p hp => (List.mem_filter.mp hp).1
  exact ⟨wo_nd f.nd, Nat.le_trans wo_len f.few, fun p hp => f.nm p (mem p hp), fun p hp => f.kd p (mem p hp), fun p hp => f.lk p (mem p hp), fun p hp => f.su p (mem p hp)⟩
/-- there and back -/
theorem ren_back {fm : Form} {l q : Str} (nd : (fm.map (·.1)).Nodup) (hl : l ∈ fm.map (·.1)) (hq : q ∉ fm.map (·.1)) : ∀ f, fnd f (renE q l (renE l q (keptE fm))) = fnd f (keptE fm) := by
  intro f
  obtain ⟨k, hk⟩ := Option.isSome_iff_exists.mp (fnd_isSome.mpr hl)
  have h1 : fnd l (keptE fm) = some (k, keptX l k) := by rw [fnd_kept, hk]; rfl
  have h2 : fnd q (keptE fm) = none := by rw [fnd_kept, fnd_none hq]; rfl
  have ne : l ≠ q := fun e => hq (e ▸ hl)
  have h3 : fnd q (renE l q (keptE fm)) = some (k, keptX l k) := by
    rw [fnd_ren, h1, if_neg (by simp), if_pos rfl]
  rw [fnd_ren, h3, if_neg (by simp)]
  by_cases e1 : f = l
  · rw [if_pos e1, e1, h1]
  · rw [if_neg e1]
    by_cases e2 : f = q
    · rw [if_pos e2, e2, h2]
    · rw [if_neg e2, fnd_ren, h1, if_neg (by simp), if_neg e2, if_neg e1]
end Lf
set_option maxHeartbeats 4000000
/-! Lw1: a column, a store by a conversion. -/
namespace Lf
open PySem PySem.Spec L2
open PyProof.Rows hiding St wpAt wpAt_bind wpAt_mono
section
variable {X : Cx} {R : Rel} {σ : St} {H : Hp} {a b : Expr} {p pos apos cpos : Pos}
/-- l.index(x), texts -/
theorem de_indexL {x : Str} {ws : List Str} {j : Nat} (r : Rl R) (ha : PE X a (tG R σ H (Hd X.K (.list (ws.map PyData.str))))) (hb : PE X b (tG R σ H (Hd X.K (.str x)))) (hj : ws[j]? = some x) (hf : ∀ m, m < j → ws[m]? ≠ some x)
    (hbase : attributeBase a "index" X.env (eval a X.env) = eval a X.env := by rfl) (hfew : ((backTo cpos (starEach [b] X.env)).all (fun x => !x.1) && (backToKw cpos (keywordEach [] X.env)).all (fun x => x.1.isSome) && decide ([b].length + ([] : List Keyword).length + (if ([] : List Keyword).isEmpty then 0 else 1) < 30)) = true := by rfl)
    (hline : (apos.endLine == cpos.line) = true := by rfl) (he : starEach [b] X.env = (false, eval b X.env) :: starEach [] X.env := by rfl) : PE X (.Call (.Attribute a "index" apos) [b] [] cpos) (tG R σ H (Hd X.K (.int (j : Nat)))) :=
  PE.imp (pe_bm PySem.F.plainAttrs_list PySem.F.slot_list_index PySem.F.type_list_index mt_index ha (da_cons r (mo_d r) hb (da_nil r) he) hbase hfew hline he) fun _ _ _ ⟨e1, h1, k⟩ => ⟨e1, h1, fun v H2 h2 q => by
    obtain ⟨l, xs, rfl, hq, hd⟩ := dp_lst q
    obtain rfl := dp_strs_eq hd
    refine ⟨.inl ⟨rfl, _, hq⟩, e1, r.trans h1 h2, fun vs H3 h3 q3 => ?_⟩
    obtain ⟨u, rfl, hu⟩ := all1 q3
    obtain rfl := dp_str hu
    refine ⟨l, _, .str x, j, .str x, rfl, rfl, r.sqL h3 hq, rfl, flat_strs ws, by rw [List.getElem?_map, hj]; rfl, by simp [eqV], fun m z' hm hz => ?_, k _ _ (r.trans h2 h3) (.int _)⟩
    obtain ⟨y, hy, rfl⟩ := map_get hz
    have ne : ¬ y = x := fun e => hf m hm (by rw [hy, e])
    simp [eqV, ne]⟩
/-- house[0] -/
theorem de_sto0 {st : Sto} {e : Expr} {kk : Nat} {cp : Pos} (h : PE X e (tG Ex σ H (HSto X.K st))) : PE X (.Subscript e (.Constant (.int 0) kk cp) pos) (tG Ex σ H (Hs X.K st.sch)) :=
  de_ix (ψ := Hd X.K (.int 0)) rlEx ix_tup h (mo_sto rlEx) (de_int rlEx) (fun _ _ => rfl) fun x y H2 _ ⟨q, s, o, e1, hq, hs, ho⟩ q2 Q k => ⟨q, _, 0, s, e1, dp_int q2, hq, rfl, k _ H2 (Ex.rfl' _) hs⟩
/-- house[2] -/
theorem de_sto2 {st : Sto} {e : Expr} {kk : Nat} {cp : Pos} (h : PE X e (tG Ex σ H (HSto X.K st))) : PE X (.Subscript e (.Constant (.int 2) kk cp) pos) (tG Ex σ H (Hd X.K (.tuple (st.obs.map dOb)))) :=
  de_ix (ψ := Hd X.K (.int 2)) rlEx ix_tup h (mo_sto rlEx) (de_int rlEx) (fun _ _ => rfl) fun x y H2 _ ⟨q, s, o, e1, hq, hs, ho⟩ q2 Q k => ⟨q, _, 2, o, e1, dp_int q2, hq, rfl, k _ H2 (Ex.rfl' _) ho⟩
end
section
variable {P : Program} {w : World} {K : Fg} {mg : Str → Option Value} {base : Heap}
structure ClX where
  st : Sto
  c : Str
  f : Str
structure ClX.ok (x : ClX) : Prop where
  wf : Wf x.st
  at_ : ∃ fm k, fnd x.c x.st.sch = some fm ∧ fnd x.f fm = some k
abbrev spCol (K : Fg) : Sp := spT (fun _ => Ex) (fun x : ClX => x.ok) (fun x => [HSto K x.st, Hd K (.str x.c), Hd K (.str x.f)]) (fun x => Hd K (.list ((colOf x.st x.c x.f).map dV)))
/-- the place of a name -/
theorem place_of {α : Type} {f : Str} {k : α} : ∀ {l : AL α}, fnd f l = some k → ∃ j : Nat, l[j]? = some (f, k) ∧ ∀ m : Nat, m < j → (l.map (·.1))[m]? ≠ some f
  | [], h => by cases h
  | p :: l, h => by
    rw [fnd_cons] at h
    by_cases e : p.1 = f
    · rw [if_pos e] at h
      cases h
      exact ⟨0, by rw [← e]; rfl, fun m hm => by omega⟩
    · rw [if_neg e] at h
      obtain ⟨j, h1, h2⟩ := place_of h
      refine ⟨j + 1, h1, fun m hm => ?_⟩
      cases m with
      | zero => exact fun z => e (Option.some.inj z)
      | succ m => exact h2 m (by omega)
theorem f_law_column (T : Tx K mg) : Fnc P w K mg base 1 "_law_column" (spCol K) := by
  refine ⟨T.g_law_column, fna_of T.d_law_column sc_law_column bn_law_column (fun _ => rfl) fun cdv A0 outer s H E x vs Q hr ok ha hQ => ?_⟩
  obtain ⟨st, c, f⟩ := x
  obtain ⟨v, u, t, rfl, h1, h2, h3⟩ := all3 ha
  obtain ⟨wf, fm, k, e1, e2⟩ := ok
  have wf : Wf st := wf
  have e1 : fnd c st.sch = some fm := e1
  have e2 : fnd f fm = some k := e2
  have h1 : HSto K st v H := h1
  have h2 : Dp K H u (.str c) := h2
  have h3 : Dp K H t (.str f) := h3
  obtain ⟨j, j1, j2⟩ := place_of e2
  have fl := wf.len (c, fm) (fnd_in e1)
  have fl : fm.length ≤ 8 := fl
  have big : 1000 ≤ sizeLine := by decide
  have few := wf.few.2
  refine bs_set (i := 3) (φ := Hd K (.int (j : Nat))) rlEx sc_law_column.nd rfl (.inr rfl) (de_indexL (ws := fm.map (·.1)) rlEx (de_is (de_lcM (own := [("_law_some", 5), ("_law_sort", 7)]) (g := gTup K 2 (gCons (gName 5) (gCons (gName 7) gNil))) (src := fm) (eo := fun p => PyData.str p.1) rlEx rfl sc_law_column.nd (blkOk_by (N := ["_law_house_here", "_law_own", "_law_label", "_law_at", "_law_n", "_law_some", "_law_lots", "_law_sort"]) (sc := defScope s_law_column) (by decide +kernel))
      (src_tup (f := dFld) rlEx (de_dget rlEx hr (by rfl) (by rfl) (by exact T.z_dict) (up_nodup wf.sto.up) e1 (fun H5 r5 => de_sto0 (vst 0 h1 r5)) fun H5 r5 => vdm 1 h2 r5)) (by omega) (fun _ _ => rfl) (fun _ _ _ _ _ => pg_tup (X := _) rfl (pgs_cons (pg_name (i := 5) sc_law_column.nd rfl (.inl rfl)) (pgs_cons (pg_name (i := 7) sc_law_column.nd rfl (.inl rfl)) pgs_nil))) gm_2
      fun q z H2 hq e2 hz => g2 hz fun z1 z2 p1 p2 => ⟨rfl, Ex.rfl' _, fun H3 e3 _ _ _ _ _ => vdm 5 p1 e3⟩) (by rw [List.map_map]; rfl)) (vd 2 h3) (by rw [List.getElem?_map, j1]; rfl) j2) fun v1 H1 r1 q1 => ?_
  refine bs_ret (φ := Hd K (.list ((colOf st c f).map dV))) (de_is (de_lc (own := [("_law_n", 4), ("_law_some", 5), ("_law_lots", 6)]) (g := gTup K 3 (gCons (gName 4) (gCons (gName 5) (gCons (gName 6) gNil)))) (src := st.obs) (bo := fun o => decide (o.c = c)) (eo := fun o => dV ((fnd f (rowAt st o)).getD none)) rlEx rfl sc_law_column.nd (blkOk_by (N := ["_law_house_here", "_law_own", "_law_label", "_law_at", "_law_n", "_law_some", "_law_lots", "_law_sort"]) (sc := defScope s_law_column) (by decide +kernel))
      (src_tup (f := dOb) rlEx (de_sto2 (vst 0 h1 r1))) (by omega) (fun _ _ => nol_v _) (fun _ _ _ _ _ => pg_tup (X := _) rfl (pgs_cons (pg_name (i := 4) sc_law_column.nd rfl (.inl rfl)) (pgs_cons (pg_name (i := 5) sc_law_column.nd rfl (.inl rfl)) (pgs_cons (pg_name (i := 6) sc_law_column.nd rfl (.inl rfl)) pgs_nil)))) gm_3
      fun o z H2 ho e2 hz => g3 hz fun z1 z2 z3 p1 p2 p3 => ⟨rfl, Ex.rfl' _, fun _ _ _ _ _ => dts_one (dt_eqS rlEx (vd 5 p2) (vdm 1 h2 (r1.tr e2))), fun hb H3 e3 _ _ _ _ _ => ?_⟩) ?_) rlEx fun v' H4 e4 q => hQ v' H4 (r1.tr e4) q
  · have hoc : o.c = c := of_decide_eq_true hb
    obtain ⟨fm', a1, a2, a3⟩ := wf.sto.obs o ho
    rw [hoc, e1] at a1
    cases a1
    have lj : j < fm.length := (List.getElem?_eq_some_iff.mp j1).1
    have lv : j < o.vs.length := by omega
    have hv : o.vs[j]? = some o.vs[j] := List.getElem?_eq_getElem lv
    have er : rowAt st o = rowOf fm o.vs := by unfold rowAt fmAt; rw [hoc, e1]; rfl
    have ef : fnd f (rowAt st o) = some o.vs[j] := by
      rw [er]
      refine fnd_of (by rw [rowOf_keys a2]; exact form_nodup (wf.sto.forms (c, fm) (fnd_in e1))) ?_
      unfold rowOf
      exact List.mem_map.mpr ⟨((f, k), o.vs[j]), List.mem_of_getElem? (zip_at j1 hv), rfl⟩
    refine de_is (d := dV o.vs[j]) (de_ixT (i := (j : Int)) rlEx (vdm 6 p3 e3) (vdm 3 q1 (e2.tr e3)) (atI_nat ?_)) ?_
    · rw [List.getElem?_map, hv]
      rfl
    · show dV o.vs[j] = dV ((fnd f (rowAt st o)).getD none)
      rw [ef]
      rfl
  · unfold colOf
    rw [List.map_map]
    rfl
structure ByX where
  st : Sto
  c : Str
  fm : Form
  cv : Cv
structure ByX.ok (x : ByX) : Prop where
  wf : Wf x.st
  at_ : x.c ∈ x.st.sch.map (·.1)
  nd : (x.fm.map (·.1)).Nodup
  few : x.fm.length < 60
  fit : Fit x.st x.c (x.cv.ents x.fm)
abbrev spBy (K : Fg) : Sp := spT (fun _ => Ex) (fun x : ByX => x.ok) (fun x => [HSto K x.st, Hd K (.str x.c), IsCv K x.fm x.cv]) (fun x => HSto K (conSto x.st x.c (x.cv.ents x.fm)))
/-- x.row_of(c) -/
theorem de_rowOf {X : Cx} {σ : St} {H : Hp} {o e : Expr} {apos pos : Pos} {fm : Form} {cv : Cv} {c : Str} {j : Nat} {pl : Sem Bool} (T : Tx X.K X.mg) (C : Tc X.prog X.K X.mg) (nd : (fm.map (·.1)).Nodup) (few : fm.length < 60) (hr : Room j X.A) (hk : 7 ≤ j) (ho : ∀ H1, Ex H H1 → PE X o (tG Ex σ H1 (IsCv X.K fm cv))) (he : ∀ H1, Ex H H1 → PE X e (tG Ex σ H1 (Hd X.K (.str c))))
    (hst : starEach [e] X.env = (false, eval e X.env) :: starEach [] X.env := by rfl) (hpl : (backTo pos (starEach [] X.env)).any (·.1) = false := by rfl)
    (ht : eval (.Call (.Attribute o "row_of" apos) [e] [] pos) X.env = (do
      let ov ← eval o X.env
      standAt apos.atName
      let (f, first) ← holding [ov] (getMethod ov "row_of" pl)
      callWith pos f first (backTo pos (starEach [e] X.env)) (backToKw pos (keywordEach [] X.env))) := by rfl) :
    PE X (.Call (.Attribute o "row_of" apos) [e] [] pos) (tG Ex σ H (Hd X.K (dRow (enRow c (cv.ents fm))))) :=
  de_exact fun H1 e1 => dx_methN (χ := IsCv X.K fm cv) (f_row_of (w := X.w) (base := X.base) T (C.prc cv) (en_ok T C nd few cv)) hr hk (ho H1 e1) (C.cvc cv).cls (C.prc cv).row (φs := [Hd X.K (.str c)]) (fun H2 e2 => da_cons rlEx (mo_d rlEx) (he _ (e1.tr e2)) (da_nil rlEx) hst)
    (fun v H2 e2 ⟨a, dx, fs, ev, hi, hn⟩ => ⟨fs, c, ⟨a, dx, ev, hi⟩, (need_lk cv fs H2 hn).2, True.intro, fun vs H3 e3 q => by
      obtain ⟨y, rfl, hy⟩ := all1 q
      exact ⟨v, [y], rfl, ⟨a, dx, fs, ev, e3 _ _ hi, need_mo cv _ _ _ e3 hn⟩, y, _, rfl, hy, rfl⟩, fun H3 u H4 e3 e4 b => ⟨(e2.tr e3).tr e4, b⟩⟩) hst hpl ht
theorem f_law_by (T : Tx K mg) (Te' : Te mg) (E' : Tv K mg) (C : Tc P K mg) : Fnc P w K mg base 11 "_law_by" (spBy K) := by
  refine ⟨T.g_law_by, fna_of T.d_law_by sc_law_by bn_law_by (fun _ => rfl) fun cdv A0 outer s H E x vs Q hr ok ha hQ => ?_⟩
  obtain ⟨st, c, fm, cv⟩ := x
  obtain ⟨v, u, t, rfl, h1, h2, h3⟩ := all3 ha
  obtain ⟨wf, hc, nd, few, fit⟩ := ok
  have wf : Wf st := wf
  have hc : c ∈ st.sch.map (·.1) := hc
  have nd : (fm.map (·.1)).Nodup := nd
  have few : fm.length < 60 := few
  have fit : Fit st c (cv.ents fm) := fit
  have h1 : HSto K st v H := h1
  have h2 : Dp K H u (.str c) := h2
  have h3 : IsCv K fm cv t H := h3
  have ch := con_ch wf hc fit
  refine bs_set (i := 3) (φ := Hd K (dRows [enRow c (cv.ents fm)])) rlEx sc_law_by.nd rfl (.inl rfl) (de_tup rlEx (dd_cons rlEx (de_rowOf (fm := fm) (cv := cv) (c := c) T C nd few hr (by decide) (fun H1 e1 => vrm 2 rlEx (mo_i (need_mo cv)) h3 e1) (fun H1 e1 => vdm 1 h2 e1)) (dd_nil rlEx))) fun v1 H1 e1 q1 => ?_
  have hs : ∀ {H2 : Hp}, Ex H1 H2 → Ex H H2 := fun e => e1.tr e
  refine bs_when (t := false) rlEx (dt_is (dt_w (dw_or rlEx (dt_not (dt_val rlEx (cE (f_is_change T Te') (st.sch, [enRow c (cv.ents fm)]) hr ch (da_cons rlEx (mo_fz rlEx) (de_sto0 (vst 0 h1 e1)) (da_cons rlEx (mo_d rlEx) (vd 3 q1) (da_nil rlEx)))))) fun _ => dw_or1 (dt_neI rlEx (cE (f_lets_change T Te') (st.sch, [enRow c (cv.ents fm)]) hr ch (da_cons rlEx (mo_fz rlEx) (de_sto0 (vst 0 h1 e1)) (da_cons rlEx (mo_d rlEx) (vd 3 q1) (da_nil rlEx)))) (de_int rlEx)))) rfl) (fun z => by cases z) fun _ H2 e2 => ?_
  exact bs_ret (φ := HSto K (conSto st c (cv.ents fm))) (cE (f_changed T Te' E') (st, [enRow c (cv.ents fm)]) hr ⟨wf.sto, ch⟩ (da_cons rlEx (mo_sto rlEx) (vst 0 h1 (e1.tr e2)) (da_cons rlEx (mo_d rlEx) (vdm 3 q1 e2) (da_nil rlEx)))) rlEx fun v' H4 e4 q => hQ v' H4 ((e1.tr e2).tr e4) q
end
end Lf
set_option maxHeartbeats 4000000
/-! Lw2: a field is renamed and left out rightly. -/
namespace Lf
open PySem PySem.Spec L2
open PyProof.Rows hiding St wpAt wpAt_bind wpAt_mono
/-! ### equal data -/
theorem eqv_self {n : Nat} {d : PyData} (h : shn n d) : PyData.eqv d d = true := PySem.SeqAt.eqv_refl d h.1
theorem shn_v {n : Nat} (v : Vl) : shn n (dV v) := by
  cases v with
  | none => exact shn_non
  | some i => exact shn_int
theorem shn_vs {n : Nat} (vs : List Vl) : shn (n + 1) (.list (vs.map dV)) := shn_lst fun d hd => by
  obtain ⟨v, _, rfl⟩ := List.mem_map.mp hd
  exact shn_v v
theorem shn_vt {n : Nat} (vs : List Vl) : shn (n + 1) (.tuple (vs.map dV)) := shn_tup fun d hd => by
  obtain ⟨v, _, rfl⟩ := List.mem_map.mp hd
  exact shn_v v
theorem shn_obs {n : Nat} {st : Sto} (w : Wf st) : shn (n + 3) (.tuple (st.obs.map dOb)) := shn_tup fun d hd => by
  obtain ⟨o, ho, rfl⟩ := List.mem_map.mp hd
  obtain ⟨fm, h1, _⟩ := w.sto.obs o ho
  exact shn_t3 (n := n + 1) shn_int (shn_nm (w.nm _ (fnd_in h1))) (shn_vt _)
theorem shn_sch {n : Nat} {sch : Sch} (h1 : ∀ p ∈ sch, nmOk p.1) (h2 : ∀ p ∈ sch, formOk p.2) : shn (n + 5) (dSch sch) := shn_tup fun d hd => by
  obtain ⟨p, hp, rfl⟩ := List.mem_map.mp hd
  exact shn_t2 (n := n + 3) (shn_nm (h1 p hp)) (shn_form (h2 p hp))
theorem shn_sto {n : Nat} {st : Sto} (w : Wf st) : shn (n + 6) (dSto st) := shn_t3 (n := n + 5) (shn_sch w.nm w.sto.forms) shn_int (shn_obs (n := n + 2) w)
theorem shn_strs {n : Nat} {ws : List Str} (h : ∀ x ∈ ws, nmOk x) : shn (n + 1) (.list (ws.map PyData.str)) := shn_lst fun d hd => by
  obtain ⟨x, hx, rfl⟩ := List.mem_map.mp hd
  exact shn_nm (h x hx)
theorem hoWf {st : Sto} (h : HoOk st) : Wf st := by
  refine ⟨h.sto, fun p hp q hq d hd => ?_, fun p hp => cn_nm h.sch.names (List.mem_map_of_mem hp), fun p hp => by have := lot_len (h.sch.lots p hp); omega, h.sch.len, h.few⟩
  rcases (h.sch.lots p hp).kd q hq with ⟨lo, hi, e, _⟩ | ⟨c, hc, e⟩
  · rw [e] at hd; cases hd
  · rw [e] at hd; cases hd; exact hc
theorem filter_no {α : Type} : ∀ l : List α, l.filter (fun _ => false) = []
  | [] => rfl
  | _ :: l => filter_no l
theorem q_labs : ("q" : Str) ∉ labs := by decide +kernel
theorem z_labs : ("z" : Str) ∉ labs := by decide +kernel
theorem zz_labs : ("zz" : Str) ∉ labs := by decide +kernel
theorem not_lab {ns : List Str} {fm : Form} {x : Str} (h : LotOk ns fm) (n : x ∉ labs) : x ∉ fm.map (·.1) := fun m => n (h.sub.subset m)
/-- the form without a field -/
theorem form_wo {fm : Form} {l : Str} (u : Up (fm.map (·.1))) : enForm (woE l (keptE fm)) = fm.filter fun p => !decide (p.1 = l) := by
  have e : woE l (keptE fm) = keptE (fm.filter fun p => !decide (p.1 = l)) := by
    unfold woE keptE
    rw [List.filter_map]
    rfl
  rw [e]
  exact form_kept (List.Pairwise.sublist (List.Sublist.map _ List.filter_sublist) u)
section
variable {P : Program} {w : World} {K : Fg} {mg : Str → Option Value} {base : Heap}
section
variable {X : Cx} {R : Rel} {σ : St} {H : Hp} {a b : Expr} {pos : Pos} {j : Nat} {st st2 : Sto}
/-- a store as data -/
theorem de_stoD (r : Rl R) (h : PE X a (tG R σ H (HSto X.K st))) : PE X a (tG R σ H (Hd X.K (dSto st))) := de_imp h (fun _ _ _ q => sto_dp q) r
theorem dt_stoN {j' p'} (r : Rl R) (h : PE X a (tG R σ H (HSto X.K st))) : PT X (.Compare a [.Is] [.Constant .none j' p'] pos) (tT R σ H false) := dt_is (dt_isN r (de_stoD r h)) rfl
/-- != of equal stores -/
theorem dt_stoNe (hr : Room j X.A) (w : Wf st) (h : PE X a (tG Ex σ H (HSto X.K st))) (h2 : PE X b (tG Ex σ H (HSto X.K st))) : PT X (.Compare a [.NotEq] [b] pos) (tT Ex σ H false) :=
  dt_is (dt_neD rlEx hr (de_stoD rlEx h) (de_stoD rlEx h2) (shn_sto (n := 0) w).sh (shn_sto (n := 0) w).sh) (by rw [eqv_self (shn_sto (n := 0) w)]; rfl)
/-- != of equal columns -/
theorem dt_colNe {vs : List Vl} (r : Rl R) (hr : Room j X.A) (h : PE X a (tG R σ H (Hd X.K (.list (vs.map dV))))) (h2 : PE X b (tG R σ H (Hd X.K (.list (vs.map dV))))) : PT X (.Compare a [.NotEq] [b] pos) (tT R σ H false) :=
  dt_is (dt_neD r hr h h2 (shn_vs (n := 0) vs).sh (shn_vs (n := 0) vs).sh) (by rw [eqv_self (shn_vs (n := 0) vs)]; rfl)
end
structure FrX where
  st : Sto
  c : Str
  l : Str
structure FrX.ok (x : FrX) : Prop where
  ho : HoOk x.st
  at_ : ∃ fm, fnd x.c x.st.sch = some fm ∧ x.l ∈ fm.map (·.1)
abbrev spFr (K : Fg) : Sp := spT (fun _ => Ex) (fun x : FrX => x.ok) (fun x => [HSto K x.st, Hd K (.str x.c), Hd K (.str x.l)]) (fun _ => Hd K (.bool true))
abbrev nFr : List Str := ["_law_house_here", "_law_own", "_law_label", "_law_lot_here", "_law_once", "_law_others", "_law_thin", "_law_some", "_law_sort", "_law_one"]
theorem f_law_field_right (T : Tx K mg) (Te' : Te mg) (E' : Tv K mg) (C : Tc P K mg) : Fnc P w K mg base 12 "_law_field_right" (spFr K) := by
  refine ⟨T.g_law_field_right, fna_of T.d_law_field_right sc_law_field_right bn_law_field_right (fun _ => rfl) fun cdv A0 outer s H E x vs Q hr ok ha hQ => ?_⟩
  obtain ⟨st, c, l⟩ := x
  obtain ⟨v, u, t, rfl, h1, h2, h3⟩ := all3 ha
  obtain ⟨ho, fm, e1, hl⟩ := ok
  have ho : HoOk st := ho
  have e1 : fnd c st.sch = some fm := e1
  have hl : l ∈ fm.map (·.1) := hl
  have h1 : HSto K st v H := h1
  have h2 : Dp K H u (.str c) := h2
  have h3 : Dp K H t (.str l) := h3
  have wf := hoWf ho
  have hc : c ∈ st.sch.map (·.1) := fnd_key e1
  have lot := ho.sch.lot e1
  have len4 := lot_len lot
  have up := lot_up lot
  have nd : (fm.map (·.1)).Nodup := up_nodup up
  have nq := not_lab lot q_labs
  have nml : nmOk l := lab_nm (lot.sub.subset hl)
  have big : 1000 ≤ sizeLine := by decide
  have fk := fit_kept wf e1
  have lk := keptE_len (fm := fm)
  obtain ⟨k, hk⟩ := Option.isSome_iff_exists.mp (fnd_isSome.mpr hl)
  have hkE : fnd l (keptE fm) = some (k, keptX l k) := by rw [fnd_kept, hk]; rfl
  -- once
  have f1 : Fit st c (renE l "q" (keptE fm)) := fit_ren fk (by omega) nm_q
  have w1 := con_wf wf hc f1
  have hc1 : c ∈ (conSto st c (renE l "q" (keptE fm))).sch.map (·.1) := by rw [con_names wf hc]; exact hc
  have ef1 : fnd c (conSto st c (renE l "q" (keptE fm))).sch = some (enForm (renE l "q" (keptE fm))) := by rw [con_fm wf hc, if_pos rfl]
  have nd1 : ((enForm (renE l "q" (keptE fm))).map (·.1)).Nodup := up_nodup (enForm_up f1.nd)
  have ln1 : (enForm (renE l "q" (keptE fm))).length ≤ 5 := by rw [enForm_len]; have := ren_len (o := l) (n := "q") (es := keptE fm); omega
  have ek1 : fnd "q" (renE l "q" (keptE fm)) = some (k, keptX l k) := by rw [fnd_ren, hkE, if_neg (by simp), if_pos rfl]
  have col1 : colOf (conSto st c (renE l "q" (keptE fm))) c "q" = colOf st c l := col_kept wf e1 hk f1.nd ek1
  have at1 : ∃ g k, fnd c (conSto st c (renE l "q" (keptE fm))).sch = some g ∧ fnd "q" g = some k := ⟨_, k, ef1, by rw [fnd_enForm f1.nd, ek1]; rfl⟩
  -- back
  have f2 : Fit (conSto st c (renE l "q" (keptE fm))) c (renE "q" l (keptE (enForm (renE l "q" (keptE fm))))) := fit_ren (fit_kept w1 ef1) (by rw [keptE_len]; omega) nml
  have back : conSto (conSto st c (renE l "q" (keptE fm))) c (renE "q" l (keptE (enForm (renE l "q" (keptE fm))))) = st := by
    rw [con_con wf hc f1, con_ext (ren_nd f1.nd) fk.nd (ren_back nd hl nq)]
    exact con_kept wf e1
  -- thin
  have f3 : Fit st c (woE l (keptE fm)) := fit_wo fk
  have w3 := con_wf wf hc f3
  have ef3 : fnd c (conSto st c (woE l (keptE fm))).sch = some (fm.filter fun p => !decide (p.1 = l)) := by rw [con_fm wf hc, if_pos rfl, form_wo up]
  have others : ∀ y ∈ (fm.filter fun p => !decide (p.1 = l)), ∃ k, fnd y.1 fm = some k ∧ fnd y.1 (woE l (keptE fm)) = some (k, keptX y.1 k) ∧ colOf (conSto st c (woE l (keptE fm))) c y.1 = colOf st c y.1 := by
    intro y hy
    obtain ⟨h1, h2⟩ := List.mem_filter.mp hy
    have ne : ¬ y.1 = l := by simpa using h2
    have hy1 : fnd y.1 fm = some y.2 := fnd_of nd h1
    have hy2 : fnd y.1 (woE l (keptE fm)) = some (y.2, keptX y.1 y.2) := by rw [fnd_wo, if_neg ne, fnd_kept, hy1]; rfl
    exact ⟨y.2, hy1, hy2, col_kept wf e1 hy1 f3.nd hy2⟩
  refine bs_set (i := 3) (φ := Hd K (dForm fm)) rlEx sc_law_field_right.nd rfl (.inl rfl) (de_dget rlEx hr rfl rfl T.z_dict (up_nodup wf.sto.up) e1 (fun H5 r5 => de_sto0 (vst 0 h1 r5)) fun H5 r5 => vdm 1 h2 r5) fun v1 H1 x1 q1 => ?_
  refine bs_set (i := 4) (φ := HSto K (conSto st c (renE l "q" (keptE fm)))) rlEx sc_law_field_right.nd rfl (.inl rfl) (cE (f_law_by T Te' E' C) ⟨st, c, fm, .ren l "q"⟩ hr ⟨wf, hc, nd, by show fm.length < 60; omega, f1⟩ (da_cons rlEx (mo_sto rlEx) (vst 0 h1 x1) (da_cons rlEx (mo_d rlEx) (vdm 1 h2 x1) (da_cons rlEx (mo_i (need_mo _)) (mk_ren (fm := fm) T C hr (by decide) rfl (vd 3 q1) (vdm 2 h3 x1) (de_str rlEx)) (da_nil rlEx))))) fun v2 H2 x2 q2 => ?_
  have x02 := x1.tr x2
  refine bs_when (t := false) rlEx (dt_is (dt_w (dw_or rlEx (dt_stoN rlEx (vst 4 q2 (Ex.rfl' _))) fun _ => dw_or1 (dt_colNe (vs := colOf st c l) rlEx hr (de_is (cE (f_law_column T) ⟨_, c, "q"⟩ hr ⟨w1, at1⟩ (da_cons rlEx (mo_sto rlEx) (vst 4 q2 (Ex.rfl' _)) (da_cons rlEx (mo_d rlEx) (vdm 1 h2 x02) (da_cons rlEx (mo_d rlEx) (de_str rlEx) (da_nil rlEx))))) (by show PyData.list ((colOf (conSto st c (renE l "q" (keptE fm))) c "q").map dV) = _; rw [col1]))
    (cE (f_law_column T) ⟨st, c, l⟩ hr ⟨wf, fm, k, e1, hk⟩ (da_cons rlEx (mo_sto rlEx) (vst 0 h1 x02) (da_cons rlEx (mo_d rlEx) (vdm 1 h2 x02) (da_cons rlEx (mo_d rlEx) (vdm 2 h3 x02) (da_nil rlEx)))))))) rfl) (fun z => by cases z) fun _ H3 x3 => ?_
  have x03 := x02.tr x3
  refine bs_when (t := false) rlEx (dt_stoNe (st := st) hr wf (de_imp (cE (f_law_by T Te' E' C) ⟨_, c, enForm (renE l "q" (keptE fm)), .ren "q" l⟩ hr ⟨w1, hc1, nd1, by show (enForm (renE l "q" (keptE fm))).length < 60; omega, f2⟩ (da_cons rlEx (mo_sto rlEx) (vst 4 q2 x3) (da_cons rlEx (mo_d rlEx) (vdm 1 h2 x03) (da_cons rlEx (mo_i (need_mo _)) (mk_ren (fm := enForm (renE l "q" (keptE fm))) T C hr (by decide) rfl (de_dget rlEx hr rfl rfl T.z_dict (up_nodup w1.sto.up) ef1 (fun H5 r5 => de_sto0 (vst 4 q2 (x3.tr r5))) fun H5 r5 => vdm 1 h2 (x03.tr r5)) (de_str rlEx) (vdm 2 h3 x03)) (da_nil rlEx))))) (fun v' H' _ q => ?_) rlEx) (vst 0 h1 x03)) (fun z => by cases z) fun _ H4 x4 => ?_
  · have q : HSto K (conSto (conSto st c (renE l "q" (keptE fm))) c (renE "q" l (keptE (enForm (renE l "q" (keptE fm)))))) v' H' := q
    rw [back] at q
    exact q
  have x04 := x03.tr x4
  have q14 : Dp K H4 v1 (.tuple (fm.map dFld)) := rlEx.dp ((x2.tr x3).tr x4) q1
  refine bs_asg (g := gTup K 2 (gCons (gName 5) (gCons (gName 6) gNil))) rlEx (pg_tup (X := _) rfl (pgs_cons (pg_name (i := 5) sc_law_field_right.nd rfl (.inl rfl)) (pgs_cons (pg_name (i := 6) sc_law_field_right.nd rfl (.inr rfl)) pgs_nil))) (de_tupE (φs := [Hd K (.list ((fm.filter fun p => !decide (p.1 = l)).map fun p => PyData.str p.1)), HSto K (conSto st c (woE l (keptE fm)))]) rlEx
    (da_cons rlEx (mo_d rlEx) (de_lc (own := [("_law_some", 7), ("_law_sort", 8)]) (g := gTup K 2 (gCons (gName 7) (gCons (gName 8) gNil))) (src := fm) (bo := fun p => !decide (p.1 = l)) (eo := fun p => PyData.str p.1) rlEx rfl sc_law_field_right.nd (blkOk_by (N := nFr) (sc := defScope s_law_field_right) (by decide +kernel)) (src_tup (f := dFld) rlEx (vd 3 q14)) (by omega) (fun _ _ => rfl)
        (fun _ _ _ _ _ => pg_tup (X := _) rfl (pgs_cons (pg_name (i := 7) sc_law_field_right.nd rfl (.inl rfl)) (pgs_cons (pg_name (i := 8) sc_law_field_right.nd rfl (.inl rfl)) pgs_nil))) gm_2 fun p z H2 hp r2 hz => g2 hz fun z1 z2 p1 p2 => ⟨rfl, Ex.rfl' _, fun _ _ _ _ _ => dts_one (dt_neS rlEx (vd 7 p1) (vdm 2 h3 (x04.tr r2))), fun _ H3 r3 _ _ _ _ _ => vdm 7 p1 r3⟩)
      (da_cons rlEx (mo_sto rlEx) (cE (f_law_by T Te' E' C) ⟨st, c, fm, .wo l⟩ hr ⟨wf, hc, nd, by show fm.length < 60; omega, f3⟩ (da_cons rlEx (mo_sto rlEx) (vst 0 h1 x04) (da_cons rlEx (mo_d rlEx) (vdm 1 h2 x04) (da_cons rlEx (mo_i (need_mo _)) (mk_wo (fm := fm) T C hr (by decide) rfl (vd 3 q14) (vdm 2 h3 x04)) (da_nil rlEx))))) (da_nil rlEx)))
      (fun vs H' z => by rw [All2.length z]; show 2 ≤ sizeLine; decide) fun vs a b e z => by
        obtain ⟨u, t, rfl, z1, z2⟩ := all2 z
        exact ⟨u, _, rfl, rlEx.dp e z1, t, _, rfl, mo_sto rlEx _ _ _ e z2, rfl⟩) fun pv H5 x5 ⟨pq, vs, e, hq, z⟩ => ?_
  obtain ⟨ov, tv, rfl, q5, q6⟩ := all2 z
  subst e
  refine g2v (.inl (.inl hq)) (g1 (g1 ?_))
  have x05 := x04.tr x5
  have shO : shn 1 (.list ((fm.filter fun p => !decide (p.1 = l)).map fun p => PyData.str p.1)) := by
    have := shn_strs (n := 0) (ws := (fm.filter fun p => !decide (p.1 = l)).map (·.1)) fun x hx => by
      obtain ⟨p, hp, rfl⟩ := List.mem_map.mp hx
      exact lab_nm (lot.sub.subset (List.mem_map_of_mem (List.mem_filter.mp hp).1))
    rw [List.map_map] at this
    exact this
  refine bs_when (t := false) rlEx (dt_is (dt_w (dw_or rlEx (dt_stoN rlEx (vst 6 q6 (Ex.rfl' _))) fun _ => dw_or1 (dt_neD rlEx hr (de_lcM (own := [("_law_some", 7), ("_law_sort", 8)]) (g := gTup K 2 (gCons (gName 7) (gCons (gName 8) gNil))) (src := fm.filter fun p => !decide (p.1 = l)) (eo := fun p => PyData.str p.1) rlEx rfl sc_law_field_right.nd (blkOk_by (N := nFr) (sc := defScope s_law_field_right) (by decide +kernel))
      (src_tup (f := dFld) rlEx (de_dget rlEx hr (by rfl) (by rfl) (by exact T.z_dict) (up_nodup w3.sto.up) ef3 (fun H5 r5 => de_sto0 (vst 6 q6 r5)) fun H5 r5 => vdm 1 h2 (x05.tr r5))) (Nat.lt_of_le_of_lt (List.length_filter_le _ _) (by omega)) (fun _ _ => rfl) (fun _ _ _ _ _ => pg_tup (X := _) rfl (pgs_cons (pg_name (i := 7) sc_law_field_right.nd rfl (.inl rfl)) (pgs_cons (pg_name (i := 8) sc_law_field_right.nd rfl (.inl rfl)) pgs_nil))) gm_2
      fun p z H2 hp r2 hz => g2 hz fun z1 z2 p1 p2 => ⟨rfl, Ex.rfl' _, fun H3 r3 _ _ _ _ _ => vdm 7 p1 r3⟩) (vd 5 q5) shO.sh shO.sh))) (by show (false || !PyData.eqv _ _) = false; rw [eqv_self shO]; rfl)) (fun z => by cases z) fun _ H6 x6 => ?_
  have x06 := x05.tr x6
  refine bs_ret (φ := Hd K (.bool true)) (de_is (de_eqD rlEx hr (de_lc (own := [("_law_one", 9)]) (g := gName 9) (src := fm.filter fun p : Str × Kd => !decide (p.1 = l)) (bo := fun _ => false) (eo := fun _ => PyData.none) rlEx rfl sc_law_field_right.nd (blkOk_by (N := nFr) (sc := defScope s_law_field_right) (by decide +kernel)) (src_lst (f := fun p : Str × Kd => PyData.str p.1) rlEx (vdm 5 q5 x6)) (Nat.lt_of_le_of_lt (List.length_filter_le _ _) (by omega)) (fun _ _ => rfl)
      (fun _ _ _ _ _ => pg_name (i := 9) sc_law_field_right.nd rfl (.inl rfl)) gm_name fun p z H7 hp r7 hz => ⟨rfl, Ex.rfl' _, fun _ _ _ _ _ => dts_one ?_, fun hb => by cases hb⟩) (de_lst rlEx (dd_nil rlEx)) ?_ (shn_ints [])) ?_) rlEx fun v' H8 x8 q => hQ v' H8 (x06.tr x8) q
  · obtain ⟨kp, hp1, hp2, hp3⟩ := others p hp
    have x07 := x06.tr r7
    refine dt_colNe (vs := colOf st c p.1) rlEx hr (de_is (cE (f_law_column T) ⟨_, c, p.1⟩ hr ⟨w3, _, kp, ef3, ?_⟩ (da_cons rlEx (mo_sto rlEx) (vst 6 q6 (x6.tr r7)) (da_cons rlEx (mo_d rlEx) (vdm 1 h2 x07) (da_cons rlEx (mo_d rlEx) (vd 9 hz) (da_nil rlEx))))) (by show PyData.list ((colOf (conSto st c (woE l (keptE fm))) c p.1).map dV) = _; rw [hp3]))
      (cE (f_law_column T) ⟨st, c, p.1⟩ hr ⟨wf, fm, kp, e1, hp1⟩ (da_cons rlEx (mo_sto rlEx) (vst 0 h1 x07) (da_cons rlEx (mo_d rlEx) (vdm 1 h2 x07) (da_cons rlEx (mo_d rlEx) (vd 9 hz) (da_nil rlEx)))))
    show fnd p.1 (fm.filter fun p => !decide (p.1 = l)) = some kp
    rw [← form_wo up, fnd_enForm f3.nd, hp2]
    rfl
  · rw [filter_no]
    exact shn_ints []
  · rw [filter_no]
    rfl
end
end Lf
set_option maxHeartbeats 4000000
/-! Lw3: a field is given, and then renamed. -/
namespace Lf
open PySem PySem.Spec L2
open PyProof.Rows hiding St wpAt wpAt_bind wpAt_mono
section
variable {X : Cx} {R : Rel} {σ : St} {H : Hp} {e : Expr} {p pos : Pos}
/-- list(t), a list of one's own -/
theorem de_listTO {ds : List PyData} (r : Rl R) (hg : Gl X "list") (hm : X.mg "list" = none) (ha : PE X e (tG R σ H (Hd X.K (.tuple ds)))) (he : starEach [e] X.env = (false, eval e X.env) :: starEach [] X.env := by rfl) :
    PE X (.Call (.Name "list" p) [e] [] pos) (tG R σ H (OL X.K ds)) :=
  de_ct r call_list_of hg hm (by decide +kernel) (da_cons r (mo_d r) ha (da_nil r) he) (fun vs H1 _ q Q k => by
    obtain ⟨v, rfl, h⟩ := all1 q
    obtain ⟨a, xs, rfl, h1, h2⟩ := dp_tup h
    exact ⟨a, xs, rfl, .inr h1, fun l hl => k _ _ (r.ex (Ex.new hl)) ⟨l, xs, rfl, upd_same, r.dpAll (r.ex (Ex.new hl)) h2⟩⟩) (he := he)
end
theorem rep_one {α : Type} (x : α) : ∀ n, (List.replicate n [x]).flatten = List.replicate n x
  | 0 => rfl
  | n + 1 => by rw [List.replicate_succ, List.flatten_cons, rep_one x n]; rfl
def worths : List PyData := [.int 0, .int 3, .int 9, .int (-5), .int 99]
theorem worth_int : ∀ d ∈ worths, ∃ z : Int, d = .int z := by
  intro d hd
  simp only [worths, List.mem_cons, List.not_mem_nil, or_false] at hd
  rcases hd with rfl | rfl | rfl | rfl | rfl <;> exact ⟨_, rfl⟩
theorem anyw {x : FdX} : (x, worths).2 ≠ [] ∧ (x, worths).2.length ≤ 1000 := ⟨(by decide : worths ≠ []), (by decide : worths.length ≤ 1000)⟩
section
variable {P : Program} {w : World} {K : Fg} {mg : Str → Option Value} {base : Heap}
structure GrX where
  x : FdX
  st : Sto
  c : Str
structure GrX.ok (x : GrX) : Prop where
  ho : HoOk x.st
  at_ : x.c ∈ x.st.sch.map (·.1)
abbrev spGr (K : Fg) : Sp := spT (fun y : GrX => RF K y.x) (fun x => x.ok) (fun y => [Hf K y.x, HSto K y.st, Hd K (.str y.c)]) (fun _ => Hd K (.bool true))
abbrev nGr : List Str := ["_law_feed_here", "_law_house_here", "_law_own", "_law_lot_here", "_law_worth", "_law_later", "_law_many", "_law_elder", "_law_both", "_law_due", "_law_label", "_law_sort", "_law_again", "_law_found", "_law_n", "_law_some", "_law_lots"]
/-- the objects of a class, counted -/
abbrev nOf (st : Sto) (c : Str) : Nat := (st.obs.filter fun o => decide (o.c = c)).length
theorem f_law_given_right (T : Tx K mg) (Te' : Te mg) (E' : Tv K mg) (C : Tc P K mg) : Fnc P w K mg base 12 "_law_given_right" (spGr K) := by
  refine ⟨T.g_law_given_right, fna_of T.d_law_given_right sc_law_given_right bn_law_given_right (fun _ => rfl) fun cdv A0 outer s H E y vs Q hr ok ha hQ => ?_⟩
  obtain ⟨x, st, c⟩ := y
  obtain ⟨v, u, t, rfl, hf, h1, h2⟩ := all3 ha
  obtain ⟨ho, hc⟩ := ok
  have ho : HoOk st := ho
  have hc : c ∈ st.sch.map (·.1) := hc
  obtain ⟨rfl, hf⟩ := hf
  have h1 : HSto K st u H := h1
  have h2 : Dp K H t (.str c) := h2
  obtain ⟨fm, e1⟩ := SchOk.got hc
  have r := rlRF K x
  have wf := hoWf ho
  have lot := ho.sch.lot e1
  have len4 := lot_len lot
  have up := lot_up lot
  have nd : (fm.map (·.1)).Nodup := up_nodup up
  have nq := not_lab lot q_labs
  have big : 1000 ≤ sizeLine := by decide
  have fk := fit_kept wf e1
  have lk := keptE_len (fm := fm)
  have few := wf.few.2
  have nlen : nOf st c ≤ 6 := Nat.le_trans (List.length_filter_le _ _) few
  refine bs_par (i := 3) (j := 4) (φ := Hd K (dForm fm)) (ψ := HE K fun d => d ∈ worths) r rfl sc_law_given_right.nd rfl rfl (by decide) rfl rfl
    (da_cons r (mo_d r) (de_dget r hr rfl rfl T.z_dict (up_nodup wf.sto.up) e1 (fun H5 r5 => de_sto0 (vr 1 rlEx (mo_sto rlEx) (mo_sto r _ _ _ r5 h1))) fun H5 r5 => vd 2 (r.dp r5 h2))
      (da_cons r (mo_he r) (cR (f_law_any T) (x, worths) r (fun _ _ h => h) hr anyw (da_cons r mo_f (vr 0 r mo_f ⟨rfl, hf⟩) (da_cons r (mo_d r) (de_lst r (dd_cons r (de_int r) (dd_cons r (de_int r) (dd_cons r (de_int r) (dd_cons r (de_neg (de_int r)) (dd_cons r (de_int r) (dd_nil r))))))) (da_nil r)))) (da_nil r))) fun lv wv H1 r1 q1 q2 => ?_
  obtain ⟨_, hw, q2⟩ := q2
  obtain ⟨z, rfl⟩ := worth_int _ hw
  obtain rfl := dp_int q2
  have q1 : Dp K H1 lv (.tuple (fm.map dFld)) := q1
  refine bs_when (t := decide (((fm.map dFld).length : Int) > 3)) rlEx (dt_cmpI (g := fun i j => decide (i > j)) rlEx op_gt (de_lenT rlEx rfl T.z_len (vd 3 q1)) (de_int rlEx)) (fun _ H2 x2 => bs_ret (φ := Hd K (.bool true)) (de_bl rlEx) rlEx fun v' H3 x3 q => hQ v' H3 (r.trans r1 (r.ex (x2.tr x3))) q) fun _ H2 x2 => ?_
  have s1 : HSto K st u H2 := mo_sto r _ _ _ (r.trans r1 (r.ex x2)) h1
  have s2 : Dp K H2 t (.str c) := r.dp (r.trans r1 (r.ex x2)) h2
  have s3 : Dp K H2 lv (.tuple (fm.map dFld)) := rlEx.dp x2 q1
  have r2 := r.trans r1 (r.ex x2)
  -- later
  have f1 : Fit st c (wiE "q" (.rng 0 9, .num z) (keptE fm)) := fit_wi fk (by omega) nm_q (by decide)
  have w1 := con_wf wf hc f1
  have hc1 : c ∈ (conSto st c (wiE "q" (.rng 0 9, .num z) (keptE fm))).sch.map (·.1) := by rw [con_names wf hc]; exact hc
  have ef1 : fnd c (conSto st c (wiE "q" (.rng 0 9, .num z) (keptE fm))).sch = some (enForm (wiE "q" (.rng 0 9, .num z) (keptE fm))) := by rw [con_fm wf hc, if_pos rfl]
  have nd1 : ((enForm (wiE "q" (.rng 0 9, .num z) (keptE fm))).map (·.1)).Nodup := up_nodup (enForm_up f1.nd)
  have ln1' : (wiE "q" (.rng 0 9, .num z) (keptE fm)).length ≤ 5 := by have := wi_len (f := "q") (x := (.rng 0 9, .num z)) (es := keptE fm); omega
  have ln1 : (enForm (wiE "q" (.rng 0 9, .num z) (keptE fm))).length ≤ 5 := by rw [enForm_len]; exact ln1'
  have ek1 : fnd "q" (wiE "q" (.rng 0 9, .num z) (keptE fm)) = some (.rng 0 9, .num z) := by rw [fnd_wi, if_pos rfl]
  have col1 : colOf (conSto st c (wiE "q" (.rng 0 9, .num z) (keptE fm))) c "q" = List.replicate (nOf st c) (some (max 0 (min 9 z))) := col_num wf hc f1.nd ek1
  have at1 : ∃ g k, fnd c (conSto st c (wiE "q" (.rng 0 9, .num z) (keptE fm))).sch = some g ∧ fnd "q" g = some k := ⟨_, .rng 0 9, ef1, by rw [fnd_enForm f1.nd, ek1]; rfl⟩
  refine bs_set (i := 5) (φ := HSto K (conSto st c (wiE "q" (.rng 0 9, .num z) (keptE fm)))) rlEx sc_law_given_right.nd rfl (.inl rfl) (cE (f_law_by T Te' E' C) ⟨st, c, fm, .wi "q" (.rng 0 9, .num z)⟩ hr ⟨wf, hc, nd, by show fm.length < 60; omega, f1⟩ (da_cons rlEx (mo_sto rlEx) (vst 1 s1 (Ex.rfl' _)) (da_cons rlEx (mo_d rlEx) (vd 2 s2) (da_cons rlEx (mo_i (need_mo _)) (mk_wi (fm := fm) T C hr (by decide) rfl (vd 3 s3) (de_str rlEx) (de_tup rlEx (dd_cons rlEx (de_int rlEx) (dd_cons rlEx (de_int rlEx) (dd_nil rlEx)))) (vd 4 (.int z))) (da_nil rlEx))))) fun v3 H3 x3 q3 => ?_
  refine bs_set (i := 6) (φ := Hd K (.int ((nOf st c : Nat) : Int))) rlEx sc_law_given_right.nd rfl (.inl rfl) (de_is (de_lenL (ds := (st.obs.filter fun o => decide (o.c = c)).map fun o => PyData.int (o.n : Int)) rlEx rfl T.z_len (de_lc (own := [("_law_n", 14), ("_law_some", 15), ("_law_lots", 16)]) (g := gTup K 3 (gCons (gName 14) (gCons (gName 15) (gCons (gName 16) gNil)))) (src := st.obs) (bo := fun o => decide (o.c = c)) (eo := fun o => PyData.int (o.n : Int)) rlEx rfl sc_law_given_right.nd (blkOk_by (N := nGr) (sc := defScope s_law_given_right) (by decide +kernel))
      (src_tup (f := dOb) rlEx (de_sto2 (vst 1 s1 x3))) (by omega) (fun _ _ => rfl) (fun _ _ _ _ _ => pg_tup (X := _) rfl (pgs_cons (pg_name (i := 14) sc_law_given_right.nd rfl (.inl rfl)) (pgs_cons (pg_name (i := 15) sc_law_given_right.nd rfl (.inl rfl)) (pgs_cons (pg_name (i := 16) sc_law_given_right.nd rfl (.inl rfl)) pgs_nil)))) gm_3
      fun o z H2 ho e2 hz => g3 hz fun z1 z2 z3 p1 p2 p3 => ⟨rfl, Ex.rfl' _, fun _ _ _ _ _ => dts_one (dt_eqS rlEx (vd 15 p2) (vdm 2 s2 (x3.tr e2))), fun hb H3 e3 _ _ _ _ _ => vdm 14 p1 e3⟩)) (by rw [List.length_map])) fun v4 H4 x4 q4 => ?_
  obtain rfl := dp_int q4
  have x24 := x3.tr x4
  -- [n] * many
  have rep : ∀ (n : Int) {H5 : Hp} {σ' : St} {a b : Expr} {pos : Pos}, PE (CxB P w K mg base nGr "_law_given_right" (defScope s_law_given_right) (He.ga K "_law_given_right") cdv A0 outer s H E) a (tG Ex σ' H5 (OL K [.int n])) → PE (CxB P w K mg base nGr "_law_given_right" (defScope s_law_given_right) (He.ga K "_law_given_right") cdv A0 outer s H E) b (tG Ex σ' H5 (Hd K (.int ((nOf st c : Nat) : Int)))) →
      PE (CxB P w K mg base nGr "_law_given_right" (defScope s_law_given_right) (He.ga K "_law_given_right") cdv A0 outer s H E) (.BinOp a .Mult b pos) (tG Ex σ' H5 (Hd K (.list ((List.replicate (nOf st c) (some n)).map dV)))) := by
    intro n H5 σ' a b pos ha hb
    refine de_imp (de_repO rlEx ha hb ?_ ?_) (fun v' H' _ q => ?_) rlEx
    · show 1 * nOf st c ≤ sizeLine
      omega
    · omega
    · have := ol_dp q
      rw [rep_one] at this
      rw [List.map_replicate]
      exact this
  refine bs_when (t := false) rlEx (dt_is (dt_w (dw_or rlEx (dt_stoN rlEx (vst 5 q3 x4)) fun _ => dw_or1 (dt_colNe (vs := List.replicate (nOf st c) (some (max 0 (min 9 z)))) rlEx hr (de_is (cE (f_law_column T) ⟨_, c, "q"⟩ hr ⟨w1, at1⟩ (da_cons rlEx (mo_sto rlEx) (vst 5 q3 x4) (da_cons rlEx (mo_d rlEx) (vdm 2 s2 x24) (da_cons rlEx (mo_d rlEx) (de_str rlEx) (da_nil rlEx))))) (by show PyData.list ((colOf (conSto st c (wiE "q" (.rng 0 9, .num z) (keptE fm))) c "q").map dV) = _; rw [col1]))
    (rep (max 0 (min 9 z)) (de_lstO rlEx (dd_cons rlEx (de_max2 rlEx rfl rfl T.z_max (de_int rlEx) (de_min2 rlEx rfl rfl T.z_min (de_int rlEx) (vd 4 (.int z)))) (dd_nil rlEx))) (vd 6 (.int _)))))) rfl) (fun z => by cases z) fun _ H5 x5 => ?_
  have x25 := x24.tr x5
  have r5 := r.trans r2 (r.ex x25)
  -- elder
  have cat : ∀ (d : PyData), nol d = true → ([d] ++ fm.map fun p => PyData.str p.1).length ≤ 1000 := fun d _ => by rw [List.length_append, List.length_map]; simp only [List.length_cons, List.length_nil]; omega
  refine bs_set (i := 7) (φ := HE K fun d => d ∈ [PyData.str "q"] ++ fm.map fun p => PyData.str p.1) r sc_law_given_right.nd rfl (.inl rfl) (cR (f_law_any T) (x, [PyData.str "q"] ++ fm.map fun p => PyData.str p.1) r (fun _ _ h => h) hr ⟨by simp, cat _ rfl⟩ (da_cons r mo_f (vrm 0 r mo_f ⟨rfl, hf⟩ r5) (da_cons r (mo_d r) (de_imp (de_catO r (de_lstO r (dd_cons r (de_str r) (dd_nil r)))
      (de_lcMO (own := [("_law_label", 10), ("_law_sort", 11)]) (g := gTup K 2 (gCons (gName 10) (gCons (gName 11) gNil))) (src := fm) (eo := fun p => PyData.str p.1) r rfl sc_law_given_right.nd (blkOk_by (N := nGr) (sc := defScope s_law_given_right) (by decide +kernel)) (src_tup (f := dFld) r (vr 3 r (mo_d r) (rlEx.dp x25 s3))) (by omega) (fun _ _ => rfl)
        (fun _ _ _ _ _ => pg_tup (X := _) rfl (pgs_cons (pg_name (i := 10) sc_law_given_right.nd rfl (.inl rfl)) (pgs_cons (pg_name (i := 11) sc_law_given_right.nd rfl (.inl rfl)) pgs_nil))) gm_2 fun p z H2 hp r2 hz => g2 hz fun z1 z2 p1 p2 => ⟨rfl, r.refl _, fun H3 r3 _ _ _ _ _ => vrm 10 r (mo_d r) p1 r3⟩) (by rw [List.length_map]; show 1 + fm.length ≤ sizeLine; omega)) (fun _ _ _ q => ol_dp q) r) (da_nil r)))) fun v6 H6 r6 q6 => ?_
  obtain ⟨_, he, q6⟩ := q6
  obtain ⟨el, rfl⟩ : ∃ el : Str, _ = PyData.str el := by
    rcases List.mem_append.mp he with h | h
    · exact ⟨_, List.mem_singleton.mp h⟩
    · obtain ⟨p, _, rfl⟩ := List.mem_map.mp h
      exact ⟨_, rfl⟩
  have r26 : RF K x H2 H6 := r.trans (r.ex x25) r6
  have t1 : HSto K st u H6 := mo_sto r _ _ _ r26 s1
  have t2 : Dp K H6 t (.str c) := r.dp r26 s2
  have t3 : Dp K H6 lv (.tuple (fm.map dFld)) := r.dp r26 s3
  have t5 : HSto K (conSto st c (wiE "q" (.rng 0 9, .num z) (keptE fm))) v3 H6 := mo_sto r _ _ _ (r.trans (r.ex (x4.tr x5)) r6) q3
  -- both, due
  have f2 : Fit st c (renE el "z" (wiE "q" (.rng 0 9, .num z) (keptE fm))) := fit_ren f1 (by omega) nm_z
  have w2 := con_wf wf hc f2
  have f3 : Fit (conSto st c (wiE "q" (.rng 0 9, .num z) (keptE fm))) c (renE el "z" (keptE (enForm (wiE "q" (.rng 0 9, .num z) (keptE fm))))) := fit_ren (fit_kept w1 ef1) (by rw [keptE_len]; omega) nm_z
  have due : conSto (conSto st c (wiE "q" (.rng 0 9, .num z) (keptE fm))) c (renE el "z" (keptE (enForm (wiE "q" (.rng 0 9, .num z) (keptE fm))))) = conSto st c (renE el "z" (wiE "q" (.rng 0 9, .num z) (keptE fm))) := con_con wf hc f1
  refine bs_set (i := 8) (φ := IsCv K fm (.rw el "z" "q" (.rng 0 9, .num z))) rlEx sc_law_given_right.nd rfl (.inl rfl) (mk_rw (fm := fm) T C hr (by decide) rfl (vd 3 t3) (vd 7 q6) (de_str rlEx) (de_str rlEx) (de_tup rlEx (dd_cons rlEx (de_int rlEx) (dd_cons rlEx (de_int rlEx) (dd_nil rlEx)))) (vd 4 (.int z))) fun v7 H7 x7 q7 => ?_
  refine bs_set (i := 9) (φ := HSto K (conSto st c (renE el "z" (wiE "q" (.rng 0 9, .num z) (keptE fm))))) rlEx sc_law_given_right.nd rfl (.inl rfl) (de_imp (cE (f_law_by T Te' E' C) ⟨_, c, enForm (wiE "q" (.rng 0 9, .num z) (keptE fm)), .ren el "z"⟩ hr ⟨w1, hc1, nd1, by show (enForm (wiE "q" (.rng 0 9, .num z) (keptE fm))).length < 60; omega, f3⟩ (da_cons rlEx (mo_sto rlEx) (vst 5 t5 x7) (da_cons rlEx (mo_d rlEx) (vdm 2 t2 x7) (da_cons rlEx (mo_i (need_mo _)) (mk_ren (fm := enForm (wiE "q" (.rng 0 9, .num z) (keptE fm))) T C hr (by decide) rfl (de_dget rlEx hr rfl rfl T.z_dict (up_nodup w1.sto.up) ef1 (fun H5 r5 => de_sto0 (vst 5 t5 (x7.tr r5))) fun H5 r5 => vdm 2 t2 (x7.tr r5)) (vdm 7 q6 x7) (de_str rlEx)) (da_nil rlEx))))) (fun v' H' _ q => ?_) rlEx) fun v8 H8 x8 q8 => ?_
  · have q : HSto K (conSto (conSto st c (wiE "q" (.rng 0 9, .num z) (keptE fm))) c (renE el "z" (keptE (enForm (wiE "q" (.rng 0 9, .num z) (keptE fm)))))) v' H' := q
    rw [due] at q
    exact q
  have x68 := x7.tr x8
  refine bs_when (t := false) rlEx (dt_is (dt_w (dw_or rlEx (dt_stoN rlEx (vst 9 q8 (Ex.rfl' _))) fun _ => dw_or1 (dt_stoNe (st := conSto st c (renE el "z" (wiE "q" (.rng 0 9, .num z) (keptE fm)))) hr w2 (cE (f_law_by T Te' E' C) ⟨st, c, fm, .rw el "z" "q" (.rng 0 9, .num z)⟩ hr ⟨wf, hc, nd, by show fm.length < 60; omega, f2⟩ (da_cons rlEx (mo_sto rlEx) (vst 1 t1 x68) (da_cons rlEx (mo_d rlEx) (vdm 2 t2 x68) (da_cons rlEx (mo_i (need_mo _)) (vrm 8 rlEx (mo_i (need_mo _)) q7 x8) (da_nil rlEx))))) (vst 9 q8 (Ex.rfl' _))))) rfl) (fun z => by cases z) fun _ H9 x9 => ?_
  have r29 : RF K x H2 H9 := r.trans r26 (r.ex (x68.tr x9))
  have x69 := x68.tr x9
  -- the label
  have dms : ∀ d ∈ [dFld ("q", .rng 0 9)] ++ fm.map dFld, ∃ (g : Str) (k : Kd), d = dFld (g, k) ∧ nmOk g := fun d hd => by
    rcases List.mem_append.mp hd with h | h
    · exact ⟨_, _, List.mem_singleton.mp h, nm_q⟩
    · obtain ⟨p, hp, rfl⟩ := List.mem_map.mp h
      exact ⟨p.1, p.2, rfl, lab_nm (lot.sub.subset (List.mem_map_of_mem hp))⟩
  refine bs_asg (φ := HE K fun d => d ∈ [dFld ("q", .rng 0 9)] ++ fm.map dFld) (g := gTup K 2 (gCons (gName 10) (gCons (gName 11) gNil))) r (pg_tup (X := _) rfl (pgs_cons (pg_name (i := 10) sc_law_given_right.nd rfl (.inl rfl)) (pgs_cons (pg_name (i := 11) sc_law_given_right.nd rfl (.inl rfl)) pgs_nil))) (cR (f_law_any T) (x, [dFld ("q", .rng 0 9)] ++ fm.map dFld) r (fun _ _ h => h) hr ⟨by simp, by show ([dFld ("q", .rng 0 9)] ++ fm.map dFld).length ≤ 1000; rw [List.length_append, List.length_map]; simp only [List.length_cons, List.length_nil]; omega⟩ (da_cons r mo_f (vrm 0 r mo_f ⟨rfl, hf⟩ (r.trans r2 r29)) (da_cons r (mo_d r) (de_imp (de_catO r (de_lstO (ds := [dFld ("q", .rng 0 9)]) r (dd_cons r (de_tup r (dd_cons r (de_str r) (dd_cons r (de_tup r (dd_cons r (de_int r) (dd_cons r (de_int r) (dd_nil r)))) (dd_nil r)))) (dd_nil r)))
      (de_listTO r rfl T.z_list (vr 3 r (mo_d r) (rlEx.dp x69 t3))) (by rw [List.length_map]; show 1 + fm.length ≤ sizeLine; omega)) (fun _ _ _ q => ol_dp q) r) (da_nil r)))) fun v10 H10 r10 q10 => ?_
  obtain ⟨_, hd, q10⟩ := q10
  obtain ⟨g, k, rfl, nmg⟩ := dms _ hd
  refine Lf.g2 q10 fun v11 v12 q11 q12 => ?_
  have r6_10 : RF K x H6 H10 := r.trans (r.ex x69) r10
  have t1 : HSto K st u H10 := mo_sto r _ _ _ r6_10 t1
  have t2 : Dp K H10 t (.str c) := r.dp r6_10 t2
  have t3 : Dp K H10 lv (.tuple (fm.map dFld)) := r.dp r6_10 t3
  refine bs_set (i := 12) (φ := IsCv K fm (.wi g (.rng 0 3, .num 2))) rlEx sc_law_given_right.nd rfl (.inl rfl) (mk_wi (fm := fm) T C hr (by decide) rfl (vd 3 t3) (vd 10 q11) (de_tup rlEx (dd_cons rlEx (de_int rlEx) (dd_cons rlEx (de_int rlEx) (dd_nil rlEx)))) (de_int rlEx)) fun v13 H13 x13 q13 => ?_
  have f4 : Fit st c (wiE g (.rng 0 3, .num 2) (keptE fm)) := fit_wi fk (by omega) nmg (by decide)
  have w4 := con_wf wf hc f4
  have ek4 : fnd g (wiE g (.rng 0 3, .num 2) (keptE fm)) = some (.rng 0 3, .num 2) := by rw [fnd_wi, if_pos rfl]
  have ef4 : fnd c (conSto st c (wiE g (.rng 0 3, .num 2) (keptE fm))).sch = some (enForm (wiE g (.rng 0 3, .num 2) (keptE fm))) := by rw [con_fm wf hc, if_pos rfl]
  have col4 : colOf (conSto st c (wiE g (.rng 0 3, .num 2) (keptE fm))) c g = List.replicate (nOf st c) (some 2) := col_num wf hc f4.nd ek4
  have at4 : ∃ h k, fnd c (conSto st c (wiE g (.rng 0 3, .num 2) (keptE fm))).sch = some h ∧ fnd g h = some k := ⟨_, .rng 0 3, ef4, by rw [fnd_enForm f4.nd, ek4]; rfl⟩
  refine bs_set (i := 13) (φ := HSto K (conSto st c (wiE g (.rng 0 3, .num 2) (keptE fm)))) rlEx sc_law_given_right.nd rfl (.inl rfl) (cE (f_law_by T Te' E' C) ⟨st, c, fm, .wi g (.rng 0 3, .num 2)⟩ hr ⟨wf, hc, nd, by show fm.length < 60; omega, f4⟩ (da_cons rlEx (mo_sto rlEx) (vst 1 t1 x13) (da_cons rlEx (mo_d rlEx) (vdm 2 t2 x13) (da_cons rlEx (mo_i (need_mo _)) (vrm 12 rlEx (mo_i (need_mo _)) q13 (Ex.rfl' _)) (da_nil rlEx))))) fun v14 H14 x14 q14 => ?_
  have x10_14 := x13.tr x14
  refine bs_ret (φ := Hd K (.bool true)) (de_is (de_and rlEx (de_notN rlEx (de_stoD rlEx (vst 13 q14 (Ex.rfl' _)))) fun _ => de_one (de_eqD rlEx hr (de_is (cE (f_law_column T) ⟨_, c, g⟩ hr ⟨w4, at4⟩ (da_cons rlEx (mo_sto rlEx) (vst 13 q14 (Ex.rfl' _)) (da_cons rlEx (mo_d rlEx) (vdm 2 t2 x10_14) (da_cons rlEx (mo_d rlEx) (vdm 10 q11 x10_14) (da_nil rlEx))))) (by show PyData.list ((colOf (conSto st c (wiE g (.rng 0 3, .num 2) (keptE fm))) c g).map dV) = _; rw [col4]))
    (rep 2 (de_lstO rlEx (dd_cons rlEx (de_int rlEx) (dd_nil rlEx))) (vd 6 (.int _))) (shn_vs (n := 0) _).sh (shn_vs (n := 0) _).sh)) ?_) rlEx fun v' H15 x15 q => hQ v' H15 (r.trans r2 (r.trans r29 (r.trans r10 (r.ex (x10_14.tr x15))))) q
  rw [eqv_self (shn_vs (n := 0) _)]
  rfl
end
end Lf
set_option maxHeartbeats 4000000
/-! Eq2: == and != of conversions as expressions. -/
namespace Lf
open PySem PySem.Spec L2
open PyProof.Rows hiding St wpAt wpAt_bind wpAt_mono
/-- what == needs of the classes -/
structure Tq (K : Fg) : Prop where
  eq : ∀ C ∈ [cRn K, cWo K], PySem.W.findIn K (.ref C) "__eq__" = some (some (.ref (kEq K)))
  ne : ∀ C ∈ [cRn K, cWo K], PySem.W.findIn K (.ref C) "__ne__" = some (some (.builtin "object.__ne__"))
  fn : PySem.W.isFn K (.ref (kEq K)) = true
  sub : ∀ C ∈ [cRn K, cWo K], PySem.W.subIn K (.ref C) (.ref (cKp K)) = some true
  df : ∀ C ∈ [cRn K, cWo K], cKp K ≠ C
section
variable {X : Cx} {pins : List (Addr × Obj)} {σ : L2.St} {H : Hp} {s : Shared} {A : Around}
theorem run_g {k : Nat} {f : Addr} {sp : Sp} {us : List Value} {vs : List V} {Q : VK} (F : FnG X.prog X.w X.K X.mg X.base k f sp) (hr : Room k A) (hg : A.guards = some []) (fr : A.frames = X.A.frames) (I : Inv X pins σ H s) (r : Vals vs us) (h : sp vs H Q E0) :
    wpAny (model X.prog X.w) A (call (.ref f) us) (EP X pins σ Q) X.xe s := by
  have e := I.env0
  refine wpAny_call (codeAny_mono (F A X.stack s H us vs Q E0 hr hg ⟨by rw [fr]; exact e.frames, e.mod, e.bs, e.bsz, e.funs, e.frf, e.hok, e.bare⟩ r h) fun r s' hq => ?_)
  cases r with
  | error e => exact pass0 _ _ _ _ _ _ I hq
  | ok fl =>
    cases fl with
    | ret u => exact I.after hq
    | next => exact False.elim hq
    | brk => exact False.elim hq
    | cont => exact False.elim hq
/-- what is compared: a conversion that keeps, and one of a class below -/
structure CmX where
  q : EqX
  ok : q.ok
  kept : q.cv2 = .kept
abbrev below (K : Fg) (cv : Cv) : Prop := cv.cls K ∈ [cRn K, cWo K]
/-- y.__eq__(x), asked of y's class -/
theorem eq_bound {x y : V} {u v : Value} {q : EqX} (T : Tx X.K X.mg) (C : Tc X.prog X.K X.mg) (TQ : Tq X.K) (hr : Room 8 A) (hg : A.guards = some []) (fr : A.frames = X.A.frames) (I : Inv X pins σ H s) (ok : q.ok) (hb : below X.K q.cv) (hx : IsCv X.K q.fm2 q.cv2 x H) (hy : IsCv X.K q.fm q.cv y H) (rx : RelV x u) (ry : RelV y v) : wpAny (model X.prog X.w) A (callSpecialIfBound? v "__eq__" [u]) (fun r s' => ∃ b, r = some (.bool b) ∧ b = q.res ∧ ∃ H', Ex H H' ∧ Inv X pins σ H' s') X.xe s := by
  have hx0 := hx
  have hy0 := hy
  obtain ⟨a, dx, fs, rfl, ha, _⟩ := hx
  obtain ⟨b, dy, gs, rfl, hb', _⟩ := hy
  cases rx
  cases ry
  obtain ⟨mB, J, _⟩ := ins_get I.hok hb'
  obtain ⟨od, J, _⟩ := J.look
  refine PySem.W.ifBound_K I.kIn J (TQ.eq _ hb) TQ.fn ?_
  refine wpAny_mono (run_g (f := kEq X.K) (vs := [.ref b, .ref a]) (Q := fun v H' => v = .bl q.res ∧ Ex H H') (f_Kept_eq (w := X.w) (base := X.base) T C) hr hg fr I (.cons rfl (.cons rfl .nil)) ⟨q, ok, ⟨_, _, rfl, hy0, _, _, rfl, hx0, rfl⟩, fun v H' e d => ⟨dp_bl d, e⟩⟩) (fun r s' z => ?_) fun _ _ z => z
  obtain ⟨w, H', I', rw', rfl, ex⟩ := z
  cases rw'
  exact ⟨q.res, rfl, rfl, H', ex, I'⟩
theorem op_eqCv (T : Tx X.K X.mg) (C : Tc X.prog X.K X.mg) (TQ : Tq X.K) (hr : Room 9 X.A) (hg : X.A.guards = some []) : OpR X (compareOp .Eq) (fun x y H Q => ∃ q : EqX, q.ok ∧ q.cv2 = .kept ∧ below X.K q.cv ∧ IsCv X.K q.fm2 q.cv2 x H ∧ IsCv X.K q.fm q.cv y H ∧ ∀ H', Ex H H' → Q (.bl q.res) H') := by
  intro pins s σ H x y v u Q I rx ry hq
  obtain ⟨q, ok, kp, hb, hx, hy, k⟩ := hq
  show wpAny (model X.prog X.w) X.A (richCompare .Eq v u) (EP X pins σ Q) X.xe s
  have hx0 := hx
  have hy0 := hy
  obtain ⟨a, dx, fs, rfl, ha, _⟩ := hx
  obtain ⟨b, dy, gs, rfl, hb', _⟩ := hy
  have rx0 := rx
  have ry0 := ry
  cases rx
  cases ry
  obtain ⟨mA, J, _⟩ := ins_get I.hok ha
  obtain ⟨_, J, _⟩ := J.look
  obtain ⟨mB, J', _⟩ := ins_get I.hok hb'
  obtain ⟨_, J', _⟩ := J'.look
  refine rc_sub (op := .Eq) (K := X.K) hr.units0 I.kIn J J' (by rw [kp]; exact TQ.df _ hb) (by rw [kp]; exact TQ.sub _ hb) ?_
  refine wpAny_mono (eq_bound T C TQ (hr.mono (by decide)) hg rfl I ok hb hx0 hy0 rx0 ry0) (fun r s' z => ?_) fun _ _ z => z
  obtain ⟨c, rfl, rfl, H', ex, I'⟩ := z
  exact ⟨q.res, rfl, .bl q.res, H', I', rfl, k H' ex⟩
theorem op_neCv (T : Tx X.K X.mg) (C : Tc X.prog X.K X.mg) (TQ : Tq X.K) (hr : Room 10 X.A) (hg : X.A.guards = some []) : OpR X (compareOp .NotEq) (fun x y H Q => ∃ q : EqX, q.ok ∧ q.cv2 = .kept ∧ below X.K q.cv ∧ IsCv X.K q.fm2 q.cv2 x H ∧ IsCv X.K q.fm q.cv y H ∧ ∀ H', Ex H H' → Q (.bl (!q.res)) H') := by
  intro pins s σ H x y v u Q I rx ry hq
  obtain ⟨q, ok, kp, hb, hx, hy, k⟩ := hq
  show wpAny (model X.prog X.w) X.A (richCompare .NotEq v u) (EP X pins σ Q) X.xe s
  have hx0 := hx
  have hy0 := hy
  obtain ⟨a, dx, fs, rfl, ha, _⟩ := hx
  obtain ⟨b, dy, gs, rfl, hb', _⟩ := hy
  have rx0 := rx
  have ry0 := ry
  cases rx
  cases ry
  obtain ⟨mA, J, _⟩ := ins_get I.hok ha
  obtain ⟨_, J, _⟩ := J.look
  obtain ⟨mB, J', _⟩ := ins_get I.hok hb'
  obtain ⟨_, J', _⟩ := J'.look
  have un := hr.un
  refine rc_sub (op := .NotEq) (K := X.K) hr.units0 I.kIn J J' (by rw [kp]; exact TQ.df _ hb) (by rw [kp]; exact TQ.sub _ hb) ?_
  refine NtL.csib (id := "object.__ne__") (J'.type.andThen (PySem.W.looks_findIn I.kIn (TQ.ne _ hb))) (PySem.F.slot_object_ne.bind _) ?_
  refine ne_obj (by omega) I.kIn J' (C.cvc q.cv).mo ?_
  refine wpAny_mono (eq_bound T C TQ (hr.mono (show 9 ≤ 10 by decide)).in1 hg rfl I ok hb hx0 hy0 rx0 ry0) (fun r s' z => ?_) fun _ _ z => z
  obtain ⟨c, rfl, rfl, H', ex, I'⟩ := z
  exact ⟨q.res, rfl, !q.res, rfl, .bl (!q.res), H', I', rfl, k H' ex⟩
end
section
variable {X : Cx} {σ : St} {H : Hp} {a b : Expr} {pos : Pos} {fm : Form} {cv : Cv}
/-- a == b, b of a class below a's -/
theorem de_eqCv (T : Tx X.K X.mg) (C : Tc X.prog X.K X.mg) (TQ : Tq X.K) {j : Nat} (hr : Room j X.A) (le : 10 ≤ j) (hg : X.A.guards = some []) (q : EqX) (ok : q.ok) (kp : q.cv2 = .kept) (hb : below X.K q.cv) (ha : PE X a (tG Ex σ H (IsCv X.K q.fm2 q.cv2))) (hb' : PE X b (tG Ex σ H (IsCv X.K q.fm q.cv))) : PE X (.Compare a [.Eq] [b] pos) (tG Ex σ H (Hd X.K (.bool q.res))) :=
  de_cmp rlEx (op_eqCv T C TQ (hr.mono (Nat.le_trans (by decide) le)) hg) ha (mo_i (need_mo _)) hb' (nomark _) fun x y H2 _ p1 p2 Q k => ⟨q, ok, kp, hb, p1, p2, fun H' e => k _ H' e (.bl _)⟩
theorem dt_neCv (T : Tx X.K X.mg) (C : Tc X.prog X.K X.mg) (TQ : Tq X.K) {j : Nat} (hr : Room j X.A) (le : 10 ≤ j) (hg : X.A.guards = some []) (q : EqX) (ok : q.ok) (kp : q.cv2 = .kept) (hb : below X.K q.cv) (ha : PE X a (tG Ex σ H (IsCv X.K q.fm2 q.cv2))) (hb' : PE X b (tG Ex σ H (IsCv X.K q.fm q.cv))) : PT X (.Compare a [.NotEq] [b] pos) (tT Ex σ H (!q.res)) :=
  dt_cmp rlEx (op_neCv T C TQ (hr.mono le) hg) ha (mo_i (need_mo _)) hb' (nomark _) fun x y H2 _ p1 p2 Q k => ⟨q, ok, kp, hb, p1, p2, fun H' e => k H' e⟩
end
end Lf
set_option maxHeartbeats 4000000
/-! Lw4: what is kept is kept rightly. -/
namespace Lf
open PySem PySem.Spec L2
open PyProof.Rows hiding St wpAt wpAt_bind wpAt_mono
/-! ### texts of conversions -/
structure Shw (n b : Nat) (d : PyData) : Prop where
  sh : d.showable = true
  nd : d.hasDict = false
  dp : d.depth ≤ n
  lf : d.leavesShort 13 = true
  bk : d.bulk ≤ b
theorem Shw.up {n m a b : Nat} {d : PyData} (h : Shw n a d) (h1 : n ≤ m) (h2 : a ≤ b) : Shw m b d := ⟨h.sh, h.nd, Nat.le_trans h.dp h1, h.lf, Nat.le_trans h.bk h2⟩
theorem shw_all {n b : Nat} : ∀ {ds : List PyData}, (∀ d ∈ ds, Shw n b d) → PyData.showableAll ds = true ∧ PyData.hasDictAll ds = false ∧ PyData.depthAll ds ≤ n ∧ PyData.leavesShortAll 13 ds = true ∧ PyData.bulkAll ds ≤ ds.length * (b + 1)
  | [], _ => by simp [PyData.showableAll, PyData.hasDictAll, PyData.depthAll, PyData.leavesShortAll, PyData.bulkAll]
  | d :: ds, h => by
    obtain ⟨a1, a2, a3, a4, a5⟩ := shw_all fun e he => h e (List.mem_cons_of_mem _ he)
    obtain ⟨b1, b2, b3, b4, b5⟩ := h d List.mem_cons_self
    refine ⟨by simp [PyData.showableAll, a1, b1], by simp [PyData.hasDictAll, a2, b2], ?_, by simp [PyData.leavesShortAll, a4, b4], ?_⟩
    · simp only [PyData.depthAll]
      omega
    · simp only [PyData.bulkAll, List.length_cons]
      rw [Nat.succ_mul]
      omega
theorem shw_tup {n b : Nat} {ds : List PyData} (h : ∀ d ∈ ds, Shw n b d) : Shw (n + 1) (ds.length * (b + 1)) (.tuple ds) := by
  obtain ⟨a1, a2, a3, a4, a5⟩ := shw_all h
  exact ⟨by simp [PyData.showable, a1], by simp [PyData.hasDict, a2], by simp only [PyData.depth]; omega, by simp [PyData.leavesShort, a4], by simp only [PyData.bulk]; exact a5⟩
theorem shw_str {x : Str} (h : nmOk x) : Shw 0 8 (.str x) := by
  refine ⟨rfl, rfl, by simp [PyData.depth], ?_, ?_⟩
  · simp only [PyData.leavesShort, List.all_eq_true, decide_eq_true_eq]
    intro c hc
    have := nm_sign c (h.2.2 c hc)
    omega
  · simp only [PyData.bulk]
    exact h.2.1
theorem shw_int {i : Int} (h1 : -1000 ≤ i) (h2 : i ≤ 1000) : Shw 0 8 (.int i) := by
  have l : i.natAbs < 10 ^ 4 := by omega
  refine ⟨?_, rfl, by simp [PyData.depth], ?_, by simp [PyData.bulk]⟩
  · simp only [PyData.showable, decide_eq_true_eq]
    by_cases h0 : i.natAbs = 0
    · rw [h0]; decide
    · have : i.natAbs < 2 ^ 1920 := Nat.lt_of_lt_of_le l (by decide +kernel)
      exact (Nat.log2_lt h0).mpr this
  · simp only [PyData.leavesShort, decide_eq_true_eq]
    have e : (PyData.shown (.int i)) = Str.ofString (toString i) := by simp only [PyData.shown]
    rw [e, PySem.ofString_length]
    have := int_text_length_le10 (a := i) (k := 4) (by decide) l
    omega
def kBd : Kd → Prop
  | .rng lo hi => -1000 ≤ lo ∧ lo ≤ hi ∧ hi ≤ 1000
  | .cls c => nmOk c
theorem shw_k {k : Kd} (h : kBd k) : Shw 1 18 (dK k) := by
  cases k with
  | rng lo hi =>
    obtain ⟨h1, h2, h3⟩ := h
    refine (shw_tup (n := 0) (b := 8) fun d hd => ?_).up (Nat.le_refl _) (by simp only [List.length_cons, List.length_nil]; decide)
    simp only [List.mem_cons, List.not_mem_nil, or_false] at hd
    rcases hd with rfl | rfl
    · exact shw_int h1 (by omega)
    · exact shw_int (by omega) h3
  | cls c => exact (shw_str h).up (by decide) (by decide)
theorem shw_fld {p : Str × Kd} (h : nmOk p.1) (h2 : kBd p.2) : Shw 2 38 (dFld p) := by
  refine (shw_tup (n := 1) (b := 18) fun d hd => ?_).up (Nat.le_refl _) (by simp only [List.length_cons, List.length_nil]; decide)
  simp only [List.mem_cons, List.not_mem_nil, or_false] at hd
  rcases hd with rfl | rfl
  · exact (shw_str h).up (by decide) (by decide)
  · exact shw_k h2
theorem shw_kept {f : Str} {k : Kd} (h : nmOk f) : Shw 2 38 (dE (keptX f k)) := by
  have one : Shw 1 9 (.tuple [.str f]) := (shw_tup (n := 0) (b := 8) fun d hd => by rw [List.mem_singleton.mp hd]; exact shw_str h).up (Nat.le_refl _) (by simp only [List.length_cons, List.length_nil]; decide)
  cases k with
  | rng lo hi =>
    refine (shw_tup (n := 1) (b := 9) fun d hd => ?_).up (Nat.le_refl _) (by simp only [List.length_cons, List.length_nil]; decide)
    simp only [List.mem_cons, List.not_mem_nil, or_false] at hd
    rcases hd with rfl | rfl | rfl
    · exact (shw_str nm_get).up (by decide) (by decide)
    · exact one
    · exact (shw_int (by decide) (by decide)).up (by decide) (by decide)
  | cls c =>
    refine (shw_tup (n := 1) (b := 9) fun d hd => ?_).up (Nat.le_refl _) (by simp only [List.length_cons, List.length_nil]; decide)
    simp only [List.mem_cons, List.not_mem_nil, or_false] at hd
    rcases hd with rfl | rfl
    · exact (shw_str nm_to).up (by decide) (by decide)
    · exact one
/-- form and expressions, all kept -/
def cvK (fm : Form) : List PyData := [dForm fm, dEs (fm.map fun p => keptX p.1 p.2)]
structure FmB (fm : Form) : Prop where
  nm : ∀ p ∈ fm, nmOk p.1
  kd : ∀ p ∈ fm, kBd p.2
  len : fm.length ≤ 8
theorem cvK_ok {fm : Form} (h : FmB fm) : shOk (cvK fm) := by
  have a : Shw 3 312 (dForm fm) := (shw_tup (n := 2) (b := 38) fun d hd => by
    obtain ⟨p, hp, rfl⟩ := List.mem_map.mp hd
    exact shw_fld (h.nm p hp) (h.kd p hp)).up (Nat.le_refl _) (by rw [List.length_map]; have := h.len; omega)
  have b : Shw 3 312 (dEs (fm.map fun p => keptX p.1 p.2)) := (shw_tup (n := 2) (b := 38) fun d hd => by
    rw [List.map_map] at hd
    obtain ⟨p, hp, rfl⟩ := List.mem_map.mp hd
    exact shw_kept (h.nm p hp)).up (Nat.le_refl _) (by rw [List.length_map, List.length_map]; have := h.len; omega)
  have t : Shw 4 626 (.tuple (cvK fm)) := (shw_tup (n := 3) (b := 312) fun d hd => by
    simp only [cvK, List.mem_cons, List.not_mem_nil, or_false] at hd
    rcases hd with rfl | rfl
    · exact a
    · exact b).up (Nat.le_refl _) (by simp only [cvK, List.length_cons, List.length_nil]; decide)
  exact ⟨t.sh, t.nd, by have := t.dp; omega, PyData.shown_fits_bulk (B := 13) (by decide) (by decide) t.lf (Nat.le_trans t.bk (by decide))⟩
theorem cvD_kept {fm fm2 : Form} {cv : Cv} (u : Up (fm2.map (·.1))) (e : cv.ents fm = keptE fm2) : cvD fm cv = cvK fm2 := by
  unfold cvD
  rw [e, form_kept u]
  unfold cvK enEx
  rw [sort_kept u]
  unfold keptE
  rw [List.map_map]
  rfl
/-! ### lengths -/
abbrev tl (ds : List PyData) : Nat := (PyData.tuple ds).shown.length
theorem shown_all : ∀ xs : List PyData, PyData.shownAll xs = xs.map PyData.shown
  | [] => by simp only [PyData.shownAll, List.map_nil]
  | x :: xs => by simp only [PyData.shownAll, List.map_cons, shown_all xs]
theorem tl_nil : tl [] = 2 := by
  unfold tl
  rw [PyData.shown_tuple]
  simp only [PyData.shownAll]
  rfl
theorem tl_cons (d : PyData) (ds : List PyData) : tl (d :: ds) + (if ds = [] then 0 else 1) = piled ((d :: ds).map PyData.shown) + (if ds = [] then 1 else 1) := by
  unfold tl
  rw [PyData.shown_tuple, strLen_append, strLen_append, shown_all]
  have j := join_length_add ((d :: ds).map PyData.shown) (by simp)
  have e1 : (Str.ofString "(").length = 1 := by decide
  have e2 : (Str.ofString ",)").length = 2 := by decide
  have e3 : (Str.ofString ")").length = 1 := by decide
  cases ds with
  | nil =>
    simp only [List.length_cons, List.length_nil, beq_self_eq_true, if_true]
    show (Str.ofString "(").length + _ + (Str.ofString ",)").length + 0 = _
    omega
  | cons e ds =>
    have h : ((d :: e :: ds).length == 1) = false := by simp
    rw [h]
    simp only [Bool.false_eq_true, if_false, reduceCtorEq]
    show (Str.ofString "(").length + _ + (Str.ofString ")").length + 1 = _
    omega
theorem tl_lt (d : PyData) (ds : List PyData) : tl ds < tl (d :: ds) := by
  have h1 := tl_cons d ds
  cases ds with
  | nil =>
    rw [tl_nil]
    simp only [if_true, List.map_cons, List.map_nil, piled_cons, piled_nil] at h1
    omega
  | cons e ds =>
    have h2 := tl_cons e ds
    simp only [reduceCtorEq, if_false, List.map_cons, piled_cons] at h1
    simp only [List.map_cons, piled_cons] at h2
    split at h2 <;> omega
theorem tl_two (a b : PyData) : tl [a, b] = a.shown.length + b.shown.length + 4 := by
  have h := tl_cons a [b]
  simp only [reduceCtorEq, if_false, List.map_cons, List.map_nil, piled_cons, piled_nil] at h
  omega
theorem cvK_ne (p : Str × Kd) (fm : Form) : (PyData.tuple (cvK (p :: fm))).shown ≠ (PyData.tuple (cvK fm)).shown := by
  intro e
  have l : tl (cvK (p :: fm)) = tl (cvK fm) := by unfold tl; rw [e]
  have h1 : tl (fm.map dFld) < tl (dFld p :: fm.map dFld) := tl_lt _ _
  have h2 : tl ((fm.map fun q => keptX q.1 q.2).map dE) < tl (dE (keptX p.1 p.2) :: (fm.map fun q => keptX q.1 q.2).map dE) := tl_lt _ _
  unfold cvK at l
  rw [tl_two, tl_two] at l
  have e1 : (dForm (p :: fm)).shown.length = tl (dFld p :: fm.map dFld) := rfl
  have e2 : (dForm fm).shown.length = tl (fm.map dFld) := rfl
  have e3 : (dEs ((p :: fm).map fun q => keptX q.1 q.2)).shown.length = tl (dE (keptX p.1 p.2) :: (fm.map fun q => keptX q.1 q.2).map dE) := rfl
  have e4 : (dEs (fm.map fun q => keptX q.1 q.2)).shown.length = tl ((fm.map fun q => keptX q.1 q.2).map dE) := rfl
  rw [e1, e2, e3, e4] at l
  omega
theorem lot_fmb {ns : List Str} {fm : Form} (hn : ns ∈ cnames) (h : LotOk ns fm) : FmB fm := by
  refine ⟨fun p hp => lab_nm (h.sub.subset (List.mem_map_of_mem hp)), fun p hp => ?_, by have := lot_len h; omega⟩
  rcases h.kd p hp with ⟨lo, hi, e, l1, l2, l3⟩ | ⟨c, hc, e⟩
  · rw [e]; exact ⟨l2, l1, l3⟩
  · rw [e]; exact cn_nm hn hc
theorem FmB.sub {fm fm2 : Form} (h : FmB fm) (s : fm2.Sublist fm) : FmB fm2 := ⟨fun p hp => h.nm p (s.subset hp), fun p hp => h.kd p (s.subset hp), Nat.le_trans s.length_le h.len⟩
theorem ren_none {o n : Str} {fm : Form} (h : o ∉ fm.map (·.1)) : renE o n (keptE fm) = keptE fm := by
  unfold renE
  have e : fnd o (keptE fm) = none := by rw [fnd_kept, fnd_none h]; rfl
  rw [e]
def headN : Form → Str
  | [] => "k"
  | p :: _ => p.1
theorem wo_head {fm : Form} (u : Up (fm.map (·.1))) : woE (headN fm) (keptE fm) = keptE (fm.drop 1) := by
  cases fm with
  | nil => rfl
  | cons p l =>
    have nd := up_nodup u
    show (keptE (p :: l)).filter _ = keptE l
    unfold keptE
    rw [List.filter_map, List.filter_cons]
    have e1 : ((fun q : Str × Ent => !decide (q.1 = headN (p :: l))) ∘ fun q : Str × Kd => (q.1, (q.2, keptX q.1 q.2))) p = false := by simp [headN]
    rw [e1]
    congr 1
    rw [if_neg (by simp)]
    refine List.filter_eq_self.mpr fun q hq => ?_
    have : q.1 ≠ p.1 := fun e => (List.nodup_cons.mp nd).1 (by show p.1 ∈ l.map (·.1); rw [← e]; exact List.mem_map_of_mem hq)
    show (!decide (q.1 = p.1)) = true
    rw [decide_eq_false this]
    rfl
theorem eqv_nil (fm : Form) : PyData.eqv (dForm fm) (.tuple []) = decide (fm = []) := by cases fm <;> rfl
section
variable {P : Program} {w : World} {K : Fg} {mg : Str → Option Value} {base : Heap}
structure KrX where
  st : Sto
  c : Str
structure KrX.ok (x : KrX) : Prop where
  ho : HoOk x.st
  at_ : x.c ∈ x.st.sch.map (·.1)
abbrev spKr (K : Fg) : Sp := spT (fun _ => Ex) (fun x : KrX => x.ok) (fun x => [HSto K x.st, Hd K (.str x.c)]) (fun _ => Hd K (.bool true))
theorem f_law_kept_right (T : Tx K mg) (Te' : Te mg) (E' : Tv K mg) (C : Tc P K mg) (TQ : Tq K) : FnG P w K mg base 12 (He.ga K "_law_kept_right") (spKr K) := by
  refine fng_of T.d_law_kept_right sc_law_kept_right bn_law_kept_right (fun _ => rfl) fun cdv A0 outer s H E x vs Q hr hg ok ha hQ => ?_
  obtain ⟨st, c⟩ := x
  obtain ⟨v, u, rfl, h1, h2⟩ := all2 ha
  obtain ⟨ho, hc⟩ := ok
  have ho : HoOk st := ho
  have hc : c ∈ st.sch.map (·.1) := hc
  have h1 : HSto K st v H := h1
  have h2 : Dp K H u (.str c) := h2
  obtain ⟨fm, e1⟩ := SchOk.got hc
  have wf := hoWf ho
  have lot := ho.sch.lot e1
  have len4 := lot_len lot
  have up := lot_up lot
  have nd : (fm.map (·.1)).Nodup := up_nodup up
  have nzz := not_lab lot zz_labs
  have fmb := lot_fmb ho.sch.names lot
  have up1 : Up ((fm.drop 1).map (·.1)) := List.Pairwise.sublist (List.Sublist.map _ (List.drop_sublist _ _)) up
  have eK : cvD fm .kept = cvK fm := cvD_kept up rfl
  have eR : cvD fm (.ren "zz" "q") = cvK fm := cvD_kept up (ren_none nzz)
  have eO : cvD fm (.wo (headN fm)) = cvK (fm.drop 1) := cvD_kept up1 (wo_head up)
  have okR : EqX.ok ⟨fm, .ren "zz" "q", fm, .kept⟩ := ⟨nd, by show fm.length < 60; omega, nd, by show fm.length < 60; omega, by show shOk (cvD fm (.ren "zz" "q")); rw [eR]; exact cvK_ok fmb, by show shOk (cvD fm .kept); rw [eK]; exact cvK_ok fmb⟩
  have okO : EqX.ok ⟨fm, .wo (headN fm), fm, .kept⟩ := ⟨nd, by show fm.length < 60; omega, nd, by show fm.length < 60; omega, by show shOk (cvD fm (.wo (headN fm))); rw [eO]; exact cvK_ok (fmb.sub (List.drop_sublist _ _)), by show shOk (cvD fm .kept); rw [eK]; exact cvK_ok fmb⟩
  have resR : EqX.res ⟨fm, .ren "zz" "q", fm, .kept⟩ = true := by
    show decide ((PyData.tuple (cvD fm (.ren "zz" "q"))).shown = (PyData.tuple (cvD fm .kept)).shown) = true
    rw [eR, eK]
    exact decide_eq_true rfl
  have resO : EqX.res ⟨fm, .wo (headN fm), fm, .kept⟩ = decide (fm = []) := by
    show decide ((PyData.tuple (cvD fm (.wo (headN fm)))).shown = (PyData.tuple (cvD fm .kept)).shown) = _
    rw [eO, eK]
    cases fm with
    | nil => rfl
    | cons p l =>
      have n1 : ¬ (PyData.tuple (cvK ((p :: l).drop 1))).shown = (PyData.tuple (cvK (p :: l))).shown := fun e => cvK_ne p l e.symm
      rw [decide_eq_false n1, decide_eq_false (List.cons_ne_nil p l)]
  have fk := fit_kept wf e1
  have kept : conSto st c (keptE fm) = st := con_kept wf e1
  have hfm : formOk fm := lot_form ho.sch.names lot
  refine bs_set (i := 2) (φ := Hd K (dForm fm)) rlEx sc_law_kept_right.nd rfl (.inl rfl) (de_dget rlEx hr rfl rfl T.z_dict (up_nodup wf.sto.up) e1 (fun H5 r5 => de_sto0 (vst 0 h1 r5)) fun H5 r5 => vdm 1 h2 r5) fun v1 H1 x1 q1 => ?_
  refine bs_par (i := 3) (j := 4) (φ := IsCv K fm .kept) (ψ := IsCv K fm (.ren "zz" "q")) rlEx rfl sc_law_kept_right.nd rfl rfl (by decide) rfl rfl (da_cons rlEx (mo_i (need_mo _)) (mk_kept (fm := fm) T C hr (by decide) rfl (vd 2 q1)) (da_cons rlEx (mo_i (need_mo _)) (mk_ren (fm := fm) T C hr (by decide) rfl (vd 2 q1) (de_str rlEx) (de_str rlEx)) (da_nil rlEx))) fun v2 v3 H2 x2 q2 q3 => ?_
  refine bs_set (i := 5) (φ := IsCv K fm (.wo (headN fm))) rlEx sc_law_kept_right.nd rfl (.inl rfl) (mk_wo (fm := fm) T C hr (by decide) rfl (vdm 2 q1 x2) (de_if (c := !PyData.eqv (dForm fm) (.tuple [])) rlEx (dt_neD rlEx hr (vdm 2 q1 x2) (de_tup rlEx (dd_nil rlEx)) (shn_form (n := 0) hfm).sh (shn_t0 (n := 0)).sh) (fun z => ?_) (fun z => de_is (de_str rlEx) ?_))) fun v4 H3 x3 q4 => ?_
  · rw [eqv_nil] at z
    cases hfm' : fm with
    | nil => rw [hfm'] at z; cases z
    | cons p l =>
      have q1' : Dp K H1 v1 (.tuple (dFld p :: l.map dFld)) := by rw [hfm'] at q1; exact q1
      exact de_ixT (ds := [.str p.1, dK p.2]) (i := 0) rlEx (de_ixT (ds := dFld p :: l.map dFld) (i := 0) (d := dFld p) rlEx (vdm 2 q1' x2) (de_int rlEx) atI_0) (de_int rlEx) atI_0
  · rw [eqv_nil] at z
    have : fm = [] := by simpa using z
    rw [this]
    rfl
  have x13 := x2.tr x3
  have x03 := x1.tr x13
  have EK := en_ok (w := w) (base := base) T C nd (show fm.length < 60 by omega)
  have shrow : shn 5 (dRow (enRow c (keptE fm))) := by
    have hr : formOk (enForm (keptE fm)) := by rw [form_kept up]; exact hfm
    refine shn_t3 (n := 4) (shn_nm (wf.got hc)) ((shn_form (n := 0) hr).up (by decide)) ?_
    refine (shn_tup (n := 2) fun d hd => ?_ : shn 3 (dEs (enEx (keptE fm)))).up (by decide)
    obtain ⟨e, he, rfl⟩ := List.mem_map.mp hd
    obtain ⟨p, hp, rfl⟩ := List.mem_map.mp he
    exact shn_e (n := 0) (suits_ok (fk.su p (mem_sort.mp hp)))
  have rowR : enRow c (Cv.ents fm (.ren "zz" "q")) = enRow c (keptE fm) := by show enRow c (renE "zz" "q" (keptE fm)) = _; rw [ren_none nzz]
  refine bs_when (t := false) rlEx (dt_w (dw_or (c := false) (c' := false || false) rlEx (dt_is (c := !EqX.res ⟨fm, .ren "zz" "q", fm, .kept⟩) ?_ ?_) fun _ => dw_or (c := false) (c' := false) rlEx (dt_is (c := !PyData.eqv (dRow (enRow c (keptE fm))) (dRow (enRow c (keptE fm)))) ?_ ?_) fun _ => dw_or1 (dt_is (c := !decide (EqX.res ⟨fm, .wo (headN fm), fm, .kept⟩ = PyData.eqv (dForm fm) (.tuple []))) ?_ ?_))) (fun z => by cases z) fun _ H4 x4 => ?_
  · refine dt_neCv T C TQ hr (by decide) hg ⟨fm, .ren "zz" "q", fm, .kept⟩ okR rfl ?_ (vrm 3 rlEx (mo_i (need_mo _)) q2 x3) (vrm 4 rlEx (mo_i (need_mo _)) q3 x3)
    show cRn K ∈ [cRn K, cWo K]
    simp
  · rw [resR]; rfl
  · refine dt_neD rlEx hr (de_rowOf (fm := fm) (cv := .kept) (c := c) T C nd (show fm.length < 60 by omega) hr (by decide) (fun H5 r5 => vrm 3 rlEx (mo_i (need_mo _)) q2 (x3.tr r5)) (fun H5 r5 => vdm 1 h2 (x03.tr r5))) ?_ shrow.sh shrow.sh
    refine de_is ?_ (congrArg dRow rowR)
    exact de_rowOf (fm := fm) (cv := .ren "zz" "q") (c := c) T C nd (show fm.length < 60 by omega) hr (by decide) (fun H5 r5 => vrm 4 rlEx (mo_i (need_mo _)) q3 (x3.tr r5)) (fun H5 r5 => vdm 1 h2 (x03.tr r5))
  · rw [eqv_self shrow]; rfl
  · refine dt_neB rlEx ?_ ?_
    · refine de_eqCv T C TQ hr (by decide) hg ⟨fm, .wo (headN fm), fm, .kept⟩ okO rfl ?_ (vrm 3 rlEx (mo_i (need_mo _)) q2 x3) (vrm 5 rlEx (mo_i (need_mo _)) q4 (Ex.rfl' _))
      show cWo K ∈ [cRn K, cWo K]
      simp
    · exact de_eqD rlEx hr (vdm 2 q1 x13) (de_tup rlEx (dd_nil rlEx)) (shn_form (n := 0) hfm).sh (shn_t0 (n := 0)).sh
  · rw [resO, eqv_nil]
    simp
  have x04 := x03.tr x4
  refine bs_ret (φ := Hd K (.bool true)) (de_is (de_eqD (d := dSto st) (d' := dSto st) rlEx hr (de_stoD rlEx (de_imp (cE (f_law_by T Te' E' C) ⟨st, c, fm, .kept⟩ hr ⟨wf, hc, nd, by show fm.length < 60; omega, fk⟩ (da_cons rlEx (mo_sto rlEx) (vst 0 h1 x04) (da_cons rlEx (mo_d rlEx) (vdm 1 h2 x04) (da_cons rlEx (mo_i (need_mo _)) (vrm 3 rlEx (mo_i (need_mo _)) q2 (x3.tr x4)) (da_nil rlEx))))) (fun v' H' _ q => ?_) rlEx)) (de_stoD rlEx (vst 0 h1 x04)) (shn_sto (n := 0) wf).sh (shn_sto (n := 0) wf).sh) (by rw [eqv_self (shn_sto (n := 0) wf)])) rlEx fun v' H5 x5 q => hQ v' H5 (x04.tr x5) q
  have q : HSto K (conSto st c (keptE fm)) v' H' := q
  rw [kept] at q
  exact q
end
end Lf
set_option maxHeartbeats 4000000
/-! Ch1: change_of(zzzzzzzz = a form, a = a conversion that keeps). -/
namespace Lf
open PySem PySem.Spec L2
open PyProof.Rows hiding St wpAt wpAt_bind wpAt_mono
section
variable {X : Cx} {R : Rel} {σ : St} {H : Hp} {D : Ends} {e a b : Expr} {es : List Expr} {kws : List Keyword} {p pos : Pos} {φ : Pv} {φs ψs : List Pv} {nm : Str} {f : Addr} {k j : Nat} {ks : List Str} {sp : Sp}
/-- sorted(d), d the dict at a place -/
theorem de_sortedR {d : Addr} {kvs : List (Key × V)} {ks : List Str} (hc : X.calm = true) (hg : Gl X "sorted") (hm : X.mg "sorted" = none) (ha : PE X e (tG Ex σ H (Hv (.ref d)))) (hd : H d = some (.dK kvs)) (hk : kvs.map (·.1) = ks.map Sum.inr) (h64 : ks.length < 64) {ys : List Str} (un : ∀ zs : List Str, zs.Perm ks → sortedS zs = true → zs = ys) (he : starEach [e] X.env = (false, eval e X.env) :: starEach [] X.env := by rfl) :
    PE X (.Call (.Name "sorted" p) [e] [] pos) (tG Ex σ H (Hd X.K (.list (ys.map PyData.str)))) :=
  de_cb rlEx (call_sortedD hc) hg hm (by decide +kernel) (da_cons rlEx mo_v ha (da_nil rlEx) he) (fun vs H1 h1 q Q k => by
    obtain ⟨v, rfl, ev⟩ := all1 q
    subst ev
    refine ⟨d, kvs, ks, rfl, .inl (h1 _ _ hd), hk, h64, fun zs z hp hs hn => ?_⟩
    cases un zs hp hs
    exact k _ _ (Ex.new hn) (.lst (.inl (.inl upd_same)) (dp_strs _))) (he := he)
/-- isinstance(x, Kept), x a tuple -/
theorem de_isCvT {ds : List PyData} (C : Tc X.prog X.K X.mg) (hg : Gl X "isinstance") (hm : X.mg "isinstance" = none) (ha : PE X a (tG Ex σ H (Hd X.K (.tuple ds)))) (hb : PE X b (tG Ex σ H (Hv (.ref (cKp X.K)))))
    (h1 : starEach [a, b] X.env = (false, eval a X.env) :: starEach [b] X.env := by rfl) (h2 : starEach [b] X.env = (false, eval b X.env) :: starEach [] X.env := by rfl) (h3 : (backTo pos (starEach [b] X.env)).any (·.1) = false := by rfl) :
    PE X (.Call (.Name "isinstance" p) [a, b] [] pos) (tG Ex σ H (Hd X.K (.bool false))) :=
  de_cb rlEx call_isi hg hm (by decide +kernel) (da_cons rlEx (mo_d rlEx) ha (da_cons rlEx mo_v hb (da_nil rlEx) h2) h1) (fun vs H1 _ q Q k => by
    obtain ⟨x, c, rfl, hx, rfl⟩ := all2 q
    exact ⟨x, .ref (cKp X.K), .type "tuple", .ref (cKp X.K), false, rfl, .own _, tyX_of hx, C.isT _ (by simp), k _ H1 (Ex.rfl' _) (.bl false)⟩) (he := h1) (hpl := h3)
/-- f(k = v, ..) -/
theorem de_callK {φ : Pv} (F : FnKw X.prog X.w X.K X.mg X.base k f ks sp) (hr : Room j X.A) (le : k ≤ j) (hg : Gl X nm) (hm : X.mg nm = some (.ref f)) (kp : PySem.W.keepIn X.K (.ref f) = true) (hkw : PK X kws (tA Ex σ H ψs)) (lks : ψs.length = ks.length)
    (hA : ∀ zs H1, Ex H H1 → All2 ψs zs H1 → ∀ Q : VK, (∀ v H3, Ex H1 H3 → φ v H3 → Q v H3) → sp zs H1 Q E0)
    (hall : (backToKw pos (keywordEach kws X.env)).all (·.1.isSome) = true := by rfl) (hks : (backToKw pos (keywordEach kws X.env)).filterMap (·.1) = ks := by rfl) (hdb : (nm == ("__debug__" : Str)) = false := by decide)
    (hpl : ((backTo pos (starEach [] X.env)).any (·.1) || (backToKw pos (keywordEach kws X.env)).any (·.1.isNone)) = false := by rfl) :
    PE X (.Call (.Name nm p) [] kws pos) (tG Ex σ H φ) := by
  refine ⟨fun pins s σ' H' Q I ⟨e1, h1, kk⟩ => ?_⟩
  subst e1
  refine wpAny_Call_Name_kw (ld_glob I hg hm ?_ hdb)
  refine PySem.W.callWith_KW0 (h₀ := X.base) I.ok.mod.kin kp hall ?_ hpl
  refine thn (hkw.run pos pins s σ' H' (fun zs H2 => Ex H' H2 ∧ All2 ψs zs H2) I ⟨rfl, h1, fun zs H2 h3 q => ⟨h3, q⟩⟩) fun ws s2 ⟨zs, H2, I2, rz, h3, qz⟩ => ⟨I2.kIn, ?_⟩
  rw [hks]
  refine wpAny_call (codeAny_mono (F X.A X.stack s2 H2 [] ws [] zs Q E0 (hr.mono le) I2.env0 .nil rz (by rw [All2.length qz, lks]) (hA zs H2 (h1.tr h3) qz Q fun v H3 e3 p3 => kk v H3 (h3.tr e3) p3)) fun r s' hq => ?_)
  cases r with
  | error e => exact pass0 _ _ _ _ _ _ I2 hq
  | ok fl =>
    cases fl with
    | ret u => exact I2.after hq
    | next => exact False.elim hq
    | brk => exact False.elim hq
    | cont => exact False.elim hq
end
/-- the form of the new class -/
def nForm : Form := [("n", .rng 2 5)]
def chRows (fm : Form) : List Row := [enRow "a" (keptE fm), ⟨"zzzzzzzz", nForm, none⟩]
section
variable {P : Program} {w : World} {K : Fg} {mg : Str → Option Value} {base : Heap}
abbrev spChg (K : Fg) : Sp := spT (fun _ => Ex) (fun fm : Form => (fm.map (·.1)).Nodup ∧ fm.length < 60) (fun fm => [Hd K (dForm nForm), IsCv K fm .kept]) (fun fm => Hd K (dRows (chRows fm)))
abbrev nCh : List Str := ["rows", "found", "cls", "own"]
theorem bk_change (kV doc pm : Value) (an : Option Addr) (cdv ct a b : Value) : bindArgs (PySem.W.fnOf "change_of" "change_of" (defArgs s_change_of) (defBody s_change_of) (defScope s_change_of) .none kV doc pm an cdv ct) ⟨[], [("zzzzzzzz", a), ("a", b)]⟩ = bOut [] [] "rows" [("zzzzzzzz", a), ("a", b)] := rfl
theorem f_change_of (T : Tx K mg) (C : Tc P K mg) : FnKw P w K mg base 8 (He.ga K "change_of") ["zzzzzzzz", "a"] (fun vs H Q E => vs.length = 2 ∧ spChg K vs H Q E) := by
  obtain ⟨fd, F⟩ := T.d_change_of.ex
  obtain ⟨oc, od, dV, kV, doc, pm, an, cdv, ct, osl, rfl, lk, hcd, dv, _⟩ := F.ex
  obtain rfl : dV = .none := by
    rcases dv with ⟨_, e⟩ | ⟨e, _⟩
    · exact e
    · exact absurd rfl e
  intro A0 outer s H us ws vs zs Q E hr e0 r rz hl ⟨ll, fm, pre, a, q⟩
  obtain ⟨z1, z2, rfl⟩ : ∃ z1 z2, zs = [z1, z2] := len2 hl
  obtain rfl : vs = [] := by
    rw [List.length_append] at ll
    have ll : vs.length + 2 = 2 := ll
    exact List.length_eq_zero_iff.mp (by omega)
  obtain rfl : us = [] := by cases r; rfl
  obtain ⟨w1, w2, rfl⟩ : ∃ w1 w2, ws = [w1, w2] := len2 (by rw [← rz.length]; rfl)
  obtain ⟨rz1, rz2⟩ : RelV z1 w1 ∧ RelV z2 w2 := by
    cases rz with
    | cons h1 t =>
      cases t with
      | cons h2 _ => exact ⟨h1, h2⟩
  refine StX.run_bnd lk hcd sc_change_of hr e0 (bnd_kwd (ps := []) (pd := "rows") (vs := []) (us := []) (kv := [("zzzzzzzz", z1), ("a", z2)]) (ex := [("zzzzzzzz", w1), ("a", w2)]) e0 (bk_change kV doc pm an cdv ct w1 w2) .nil rfl (.cons ⟨rfl, rz1⟩ (.cons ⟨rfl, rz2⟩ .nil)) (by show (["zzzzzzzz", "a"] : List Str).Nodup; decide) (by show 2 ≤ 1000; decide)) fun s2 H2 xs ⟨d, hd, e1, e2⟩ hr2 => ⟨tAt (start nCh [.ref d]) H2 { nx := fun _ H' => Q .non H', rt := Q }, PSs.nox ?_, by subst e1; rfl, rfl, rfl⟩
  obtain ⟨nd, few⟩ := pre
  have nd : (fm.map (·.1)).Nodup := nd
  have few : fm.length < 60 := few
  obtain ⟨y1, y2, ey, p1, p2⟩ := all2 a
  obtain ⟨rfl, rfl⟩ : z1 = y1 ∧ z2 = y2 := by cases ey; exact ⟨rfl, rfl⟩
  subst e2
  have x0 : Ex H (upd H d (.dK (tkv [("zzzzzzzz", z1), ("a", z2)]))) := Ex.new hd
  have p1 : Dp K _ z1 (.tuple (nForm.map dFld)) := rlEx.dp x0 p1
  have p2 : IsCv K fm .kept z2 _ := mo_i (need_mo .kept) _ _ _ x0 p2
  have g0 : upd H d (.dK (tkv [("zzzzzzzz", z1), ("a", z2)])) d = some (.dK (tkv [("zzzzzzzz", z1), ("a", z2)])) := upd_same
  generalize hH2 : upd H d (.dK (tkv [("zzzzzzzz", z1), ("a", z2)])) = H2 at x0 p1 p2 g0 ⊢
  have big : 1000 ≤ sizeLine := by decide
  refine bs_set (i := 1) (φ := IsLst K H2 []) rlEx sc_change_of.nd rfl (.inl rfl) (de_lstN (dd_nil rlEx)) fun lv H3 e3 hlv => ?_
  obtain ⟨l, ys, rfl, n2, hl3, hy3⟩ := hlv
  cases hy3
  have srt : ∀ zs : List Str, zs.Perm ["zzzzzzzz", "a"] → sortedS zs = true → zs = (["a", "zzzzzzzz"] : List Str) := fun zs hp hs => names_un (es := [(("zzzzzzzz" : Str), ()), ("a", ())]) (by decide) zs hp hs
  refine bs_forL (g := gName 2) (ds := ([("a" : Str), "zzzzzzzz"] : List Str).map PyData.str) rlEx PassesOwn.never rfl (de_sortedR (ks := ["zzzzzzzz", "a"]) (by rfl) (by rfl) (by exact T.z_sorted) (vv 0) (e3 _ _ g0) rfl (by decide) srt) (pg_name (i := 2) sc_change_of.nd rfl (.inl rfl))
    (fun b xs H6 i σ' H' => ∃ c e, σ' = [some (.ref d), some (.ref l), c, e] ∧ Ex H2 H' ∧ xs.length = 2 ∧ (∃ ys, H6 l = some (.lst ys) ∧ ys = []) ∧ RO l H6 H' ∧ ∃ acc, H' l = some (.lst acc) ∧ acc.length = i ∧ DpAll K H' acc (((chRows fm).take i).map dRow))
    (fun b xs H6 e6 _ dx => ⟨_, _, rfl, e3.tr e6, DpAll.length dx, ⟨_, e6 _ _ hl3, rfl⟩, RO.of (Ex.rfl' _), [], e6 _ _ hl3, rfl, .nil⟩) (fun b xs H6 i σ' H' hq _ ⟨_, _, _, _, lx, ⟨ys, hys, ey⟩, ro, _⟩ => hq.imp (rd_rl ro hys (fun q => by rw [ey] at q; cases q; cases lx)) id) ?_ ?_
  · rintro b xs H6 i x σ' H' e6 hq6 hd6 hx ⟨c1, c2, rfl, ex, lx, ⟨ys, hys, eys⟩, ro, acc, hacc, lacc, dacc⟩
    obtain ⟨dd, hdi, hdx⟩ := DpAll.getV hd6 hx
    have ii : i < 2 := by rw [← lx]; exact (List.getElem?_eq_some_iff.mp hx).1
    have gd := ex _ _ g0
    have push : ∀ (H8 : Hp) (z : V) (c1 c2 : Option V) (row : Row), Ex H' H8 → H8 l = some (.lst acc) → (chRows fm)[i]? = some row → Dp K H8 z (dRow row) → ∃ c e, [some (V.ref d), some (.ref l), c1, c2] = [some (.ref d), some (.ref l), c, e] ∧ Ex H2 (upd H8 l (.lst (acc ++ [z]))) ∧ xs.length = 2 ∧ (∃ ys, H6 l = some (.lst ys) ∧ ys = []) ∧ RO l H6 (upd H8 l (.lst (acc ++ [z]))) ∧ ∃ acc', upd H8 l (.lst (acc ++ [z])) l = some (.lst acc') ∧ acc'.length = i + 1 ∧ DpAll K (upd H8 l (.lst (acc ++ [z]))) acc' (((chRows fm).take (i + 1)).map dRow) := by
      intro H8 z c1 c2 row e8 l8 hrow pz
      have tu := tups_upd (o := .lst (acc ++ [z])) (no_tup l8 (fun _ z => by cases z) fun _ _ z => by cases z)
      refine ⟨c1, c2, rfl, Ex.mut (ex.tr e8) n2, lx, ⟨_, hys, eys⟩, RO.tr (RO.tr ro (RO.of e8)) RO.upd, acc ++ [z], upd_same, by rw [List.length_append, lacc]; rfl, ?_⟩
      have htake : (chRows fm).take (i + 1) = (chRows fm).take i ++ [row] := by rw [List.take_succ, hrow]; rfl
      rw [htake, List.map_append]
      refine DpAll.app (dp_nolAll tu (nolAll_map fun p _ => nol_row p) (rlEx.dpAll e8 dacc)) (.cons (dp_nol tu (nol_row _) pz) .nil)
    refine g1 ?_
    have two : i = 0 ∨ i = 1 := by omega
    rcases two with rfl | rfl
    · obtain rfl : dd = .str "a" := by simpa using hdi.symm
      obtain rfl := dp_str hdx
      refine bs_set (i := 3) (φ := Hv z2) rlEx sc_change_of.nd rfl (.inl rfl) (de_getR (y := .inr "a") hr2 (vv 0) gd (vv 2) rfl) fun ov H7 e7 hov => ?_
      obtain rfl : ov = z2 := hov
      have p27 := mo_i (need_mo .kept) _ _ _ (ex.tr e7) p2
      refine bs_append (φ := Hd K (dRow (enRow "a" (keptE fm)))) (i := 1) rlEx rfl rfl (.inl rfl) (e7 _ _ hacc) (by omega) (mo_d rlEx) (de_if (c := true) rlEx (dt_val rlEx (de_isCv (fm := fm) (cv := .kept) C (by rfl) (by exact T.z_isinstance) (vr 3 rlEx (mo_i (need_mo .kept)) p27) (de_glob rlEx (by rfl) (by exact C.gK) (by rfl)))) (fun _ => ?_) (fun z => by cases z)) fun z H8 e8 pz hl8 => bs_nil (push H8 z _ _ _ (e7.tr e8) hl8 rfl pz)
      exact de_rowOf (fm := fm) (cv := .kept) (c := "a") T C nd few hr2 (by decide) (fun H9 r9 => vrm 3 rlEx (mo_i (need_mo .kept)) p27 r9) (fun H9 r9 => vd 2 (.str _))
    · obtain rfl : dd = .str "zzzzzzzz" := by simpa using hdi.symm
      obtain rfl := dp_str hdx
      refine bs_set (i := 3) (φ := Hv z1) rlEx sc_change_of.nd rfl (.inl rfl) (de_getR (y := .inr "zzzzzzzz") hr2 (vv 0) gd (vv 2) rfl) fun ov H7 e7 hov => ?_
      obtain rfl : ov = z1 := hov
      have p17 := rlEx.dp (ex.tr e7) p1
      refine bs_append (φ := Hd K (dRow ⟨"zzzzzzzz", nForm, none⟩)) (i := 1) rlEx rfl rfl (.inl rfl) (e7 _ _ hacc) (by omega) (mo_d rlEx) (de_if (c := false) rlEx (dt_val rlEx (de_isCvT C (by rfl) (by exact T.z_isinstance) (vd 3 p17) (de_glob rlEx (by rfl) (by exact C.gK) (by rfl)))) (fun z => by cases z) (fun _ => ?_)) fun z H8 e8 pz hl8 => bs_nil (push H8 z _ _ _ (e7.tr e8) hl8 rfl pz)
      exact de_tup rlEx (dd_cons rlEx (vd 2 (.str _)) (dd_cons rlEx (vd 3 p17) (dd_cons rlEx (de_non rlEx) (dd_nil rlEx))))
  · rintro b xs H6 σ' H' e6 hq6 hd6 ⟨c1, c2, rfl, ex, lx, ⟨ys, hys, eys⟩, ro, acc, hacc, lacc, dacc⟩
    exact bs_ret (φ := Hd K (dRows (chRows fm))) (de_tupleL rlEx rfl T.z_tuple (vd 1 (.lst (.inl (.inl hacc)) dacc))) rlEx fun v' H7 e7 q' => q v' H7 ((x0.tr ex).tr e7) q'
end
end Lf
set_option maxHeartbeats 4000000
/-! Mth3: a new class beside one that is kept. -/
namespace Lf
open PySem PySem.Spec L2
open PyProof.Rows hiding St wpAt wpAt_bind wpAt_mono
theorem mem_merge {α : Type} {p : Str × α} : ∀ {m l : AL α}, p ∈ mergeS l m → p ∈ l ∨ p ∈ m
  | [], l, h => .inl h
  | q :: m, l, h => by
    rcases mem_merge (m := m) (l := putS l q.1 q.2) h with h | h
    · rcases mem_put h with rfl | h
      · exact .inr (by cases q; exact List.mem_cons_self)
      · exact .inl h
    · exact .inr (List.mem_cons_of_mem _ h)
theorem fnd_merge {α : Type} {c : Str} {x : α} : ∀ {m l : AL α}, (m.map (·.1)).Nodup → fnd c m = some x → fnd c (mergeS l m) = some x
  | [], _, _, h => by cases h
  | q :: m, l, nd, h => by
    show fnd c (mergeS (putS l q.1 q.2) m) = some x
    rw [fnd_cons] at h
    have nd' := (List.nodup_cons.mp nd)
    by_cases e : q.1 = c
    · rw [if_pos e] at h
      cases h
      -- the later ones are of other names
      have out : ∀ {m : AL α} {l : AL α}, c ∉ m.map (·.1) → fnd c l = some q.2 → fnd c (mergeS l m) = some q.2 := by
        intro m
        induction m with
        | nil => intro l _ h; exact h
        | cons r m ih =>
          intro l n h
          refine ih (l := putS l r.1 r.2) (fun z => n (List.mem_cons_of_mem _ z)) ?_
          rw [fnd_put, if_neg (fun z => n (by rw [z]; exact List.mem_cons_self))]
          exact h
      exact out (by rw [← e]; exact nd'.1) (by rw [fnd_put, if_pos e.symm])
    · rw [if_neg e] at h
      exact fnd_merge nd'.2 h
theorem zz_names {ns : List Str} (h : ns ∈ cnames) : ("zzzzzzzz" : Str) ∉ ns := by
  simp only [cnames, List.mem_cons, List.not_mem_nil, or_false] at h
  rcases h with rfl | rfl | rfl <;> decide +kernel
theorem nForm_ok : formOk nForm := by
  refine ⟨fun p hp => ?_, by decide +kernel, by decide⟩
  rw [List.mem_singleton.mp hp]
  exact ⟨nm_n, (by decide : (2 : Int) ≤ 5)⟩
section
variable {st : Sto} {fm : Form}
theorem ch_ok (ho : HoOk st) (hf : fnd "a" st.sch = some fm) : ChOk st.sch (chRows fm) := by
  have wf := hoWf ho
  have hc : ("a" : Str) ∈ st.sch.map (·.1) := fnd_key hf
  have fk := fit_kept wf hf
  have c1 := con_ch wf hc fk
  have nz : ("zzzzzzzz" : Str) ∉ st.sch.map (·.1) := zz_names ho.sch.names
  have two : ∀ r ∈ chRows fm, r = enRow "a" (keptE fm) ∨ r = ⟨"zzzzzzzz", nForm, none⟩ := fun r hr => by
    simpa [chRows] using hr
  refine ⟨fun r hr => ?_, ⟨wf.sto.up |> up_nodup, ?_, fun r hr => ?_, by show 2 < 1000; decide⟩, fun r hr p hp d hd => ?_, fun r hr l hl => ?_, by show st.sch.length + 2 < 1000; have := wf.few.1; omega⟩
  · rcases two r hr with rfl | rfl
    · exact c1.rows _ List.mem_cons_self
    · exact ⟨nm_zs, nForm_ok⟩
  · show rising ["a", "zzzzzzzz"] = true
    decide +kernel
  · rcases two r hr with rfl | rfl
    · exact c1.inn.2.2.1 _ List.mem_cons_self
    · refine ⟨?_, fun l h => by cases h⟩
      show (fnd "zzzzzzzz" st.sch).isSome = false
      rw [fnd_none nz]
      rfl
  · rcases two r hr with rfl | rfl
    · obtain ⟨q, hq, rfl⟩ := List.mem_map.mp hp
      exact List.mem_append_left _ (fk.lk q (mem_sort.mp hq) d hd)
    · rw [List.mem_singleton.mp hp] at hd
      cases hd
  · rcases two r hr with rfl | rfl
    · exact c1.fits _ List.mem_cons_self l hl
    · cases hl
theorem ch_obs (ho : HoOk st) (hf : fnd "a" st.sch = some fm) : (chSto st (chRows fm)).obs = st.obs := by
  have wf := hoWf ho
  have kept := con_kept wf hf
  have e : (conSto st "a" (keptE fm)).obs = st.obs := by rw [kept]
  have e2 : (conSto st "a" (keptE fm)).obs = st.obs.map (chOb st [enRow "a" (keptE fm)]) := rfl
  rw [← e, e2]
  show st.obs.map (chOb st (chRows fm)) = _
  rw [List.map_congr_left]
  intro o hob
  obtain ⟨fm', h1, _⟩ := wf.sto.obs o hob
  have nz : ("zzzzzzzz" : Str) ∉ st.sch.map (·.1) := zz_names ho.sch.names
  have ne : ¬ ("zzzzzzzz" : Str) = o.c := fun z => nz (by rw [z]; exact fnd_key h1)
  unfold chOb
  have l1 : fnd o.c (rowsAL (chRows fm)) = fnd o.c (rowsAL [enRow "a" (keptE fm)]) := by
    show fnd o.c (("a", enRow "a" (keptE fm)) :: ("zzzzzzzz", (⟨"zzzzzzzz", nForm, none⟩ : Row)) :: []) = fnd o.c (("a", enRow "a" (keptE fm)) :: [])
    rw [fnd_cons, fnd_cons, fnd_cons, if_neg ne]
  rw [l1]
theorem ch_sch_ok (ho : HoOk st) (hf : fnd "a" st.sch = some fm) : ∀ p ∈ (chSto st (chRows fm)).sch, nmOk p.1 ∧ formOk p.2 := by
  intro p hp
  have wf := hoWf ho
  have ok := ch_ok ho hf
  have hp : p ∈ sortS (mergeS st.sch ((chRows fm).map fun r => (r.c, r.fm))) := hp
  rcases mem_merge (mem_sort.mp hp) with h | h
  · exact ⟨wf.nm p h, wf.sto.forms p h⟩
  · obtain ⟨r, hr, rfl⟩ := List.mem_map.mp h
    exact ok.rows r hr
theorem ch_nd (ho : HoOk st) (hf : fnd "a" st.sch = some fm) : ((chSto st (chRows fm)).sch.map (·.1)).Nodup := up_nodup (sort_up (sch_names_after (rs := chRows fm) ho.sch.nd))
theorem ch_new (ho : HoOk st) (hf : fnd "a" st.sch = some fm) : fnd "zzzzzzzz" (chSto st (chRows fm)).sch = some nForm := by
  show fnd "zzzzzzzz" (sortS (mergeS st.sch (rowForms (chRows fm)))) = some nForm
  rw [sort_fnd (sch_names_after (rs := chRows fm) ho.sch.nd)]
  exact fnd_merge (by show (["a", "zzzzzzzz"] : List Str).Nodup; decide) rfl
end
/-- the first class is a -/
theorem sch_head {sch : Sch} (h : SchOk sch) : ∃ (fm : Form) (rest : Sch), sch = (("a" : Str), fm) :: rest := by
  have hn := h.names
  cases sch with
  | nil =>
    simp [cnames] at hn
  | cons p rest =>
    obtain ⟨c, fm⟩ := p
    have : c = "a" := by
      simp only [cnames, List.map_cons, List.mem_cons, List.not_mem_nil, or_false, List.cons.injEq] at hn
      rcases hn with ⟨h, _⟩ | ⟨h, _⟩ | ⟨h, _⟩ <;> exact h
    exact ⟨fm, rest, by rw [this]⟩
end Lf
set_option maxHeartbeats 4000000
/-! Lw5: the law. -/
namespace Lf
open PySem PySem.Spec L2
open PyProof.Rows hiding St wpAt wpAt_bind wpAt_mono
section
variable {X : Cx} {R : Rel} {σ : St} {H : Hp} {D : Ends} {e a b : Expr} {es : List Expr} {p pos : Pos} {φ : Pv} {nm : Str} {f : Addr} {k j : Nat}
/-- f(e, ..), where no guard stands around -/
theorem de_callG {τ : Type} {R' : τ → Rel} {Pre : τ → Prop} {A : τ → List Pv} {B : τ → Pv} (F : FnG X.prog X.w X.K X.mg X.base k f (spT R' Pre A B)) (hg0 : X.A.guards = some []) (kp : PySem.W.keepIn X.K (.ref f) = true) (hm : X.mg nm = some (.ref f)) (x : τ) (hr : Room j X.A) (le : k ≤ j) (pre : Pre x) (lr : ∀ a b, R' x a b → Ex a b) (hg : Gl X nm) (ha : PA X (e :: es) (tA Ex σ H (A x)))
    (hdb : (nm == ("__debug__" : Str)) = false := by decide) (he : starEach (e :: es) X.env = (false, eval e X.env) :: starEach es X.env := by rfl) (hpl : (backTo pos (starEach es X.env)).any (·.1) = false := by rfl) : PE X (.Call (.Name nm p) (e :: es) [] pos) (tG Ex σ H (B x)) := by
  refine ⟨fun pins s σ' H' Q I ⟨e1, h1, kk⟩ => ?_⟩
  subst e1
  refine wpAny_Call_Name_kw (ld_glob I hg hm ?_ hdb)
  refine PySem.W.callWith_K (h₀ := X.base) I.ok.mod.kin kp (thn (ha.run pos pins s σ' H' (fun vs H1 => Ex H' H1 ∧ All2 (A x) vs H1) I ⟨rfl, h1, fun vs H1 h2 q => ⟨h2, q⟩⟩) fun us s1 ⟨vs, H1, I1, r, h2, q⟩ => ⟨I1.kIn, ?_⟩) he hpl
  exact run_g F (hr.mono le) hg0 rfl I1 r ⟨x, pre, q, fun v H2 h3 b => kk v H2 (h2.tr (lr _ _ h3)) b⟩
theorem cG {τ : Type} {Pre : τ → Prop} {A : τ → List Pv} {B : τ → Pv} {P : Program} {w : World} {K : Fg} {mg : Str → Option Value} {base : Heap} (F : FnG P w K mg base k f (spT (fun _ => Ex) Pre A B)) (hg0 : X.A.guards = some []) (kp : PySem.W.keepIn K (.ref f) = true) (hm : mg nm = some (.ref f)) (x : τ) (hr : Room j X.A) (pre : Pre x)
    (ha : PA X (e :: es) (tA Ex σ H (A x))) (le : k ≤ j := by decide) (hg : Gl X nm := by rfl) (hdb : (nm == ("__debug__" : Str)) = false := by decide) (he : starEach (e :: es) X.env = (false, eval e X.env) :: starEach es X.env := by rfl) (hpl : (backTo pos (starEach es X.env)).any (·.1) = false := by rfl)
    (hP : X.prog = P := by rfl) (hw : X.w = w := by rfl) (hK : X.K = K := by rfl) (hm' : X.mg = mg := by rfl) (hb : X.base = base := by rfl) : PE X (.Call (.Name nm p) (e :: es) [] pos) (tG Ex σ H (B x)) := by
  subst hP hw hK hm' hb
  exact de_callG F hg0 kp hm x hr le pre (fun _ _ h => h) hg ha hdb he hpl
/-- house[1] -/
theorem de_sto1 {st : Sto} {kk : Nat} {cp : Pos} (h : PE X e (tG Ex σ H (HSto X.K st))) : PE X (.Subscript e (.Constant (.int 1) kk cp) pos) (tG Ex σ H (Hd X.K (.int st.lim))) :=
  de_ix (ψ := Hd X.K (.int 1)) rlEx ix_tup h (mo_sto rlEx) (de_int rlEx) (fun _ _ => rfl) fun x y H2 _ ⟨q, s, o, e1, hq, hs, ho⟩ q2 Q k => ⟨q, _, 1, .int st.lim, e1, dp_int q2, hq, rfl, k _ H2 (Ex.rfl' _) (.int _)⟩
end
theorem at_last {α : Type} (l : List α) (x : α) : atI (l ++ [x]) (-1) = some x := by
  have e : ixN (l ++ [x]).length (-1) = some l.length := by
    unfold ixN
    rw [if_neg (by decide), List.length_append]
    simp
    omega
  unfold atI
  rw [e]
  simp
theorem nolaw (ns : List Int) : (if PyData.eqv (.list (ns.map PyData.int)) (.list []) = true then (1 : Int) else 5) = ((if PyData.eqv (.list (ns.map PyData.int)) (.list []) = true then 1 else 5 : Nat) : Int) := by split <;> rfl
section
variable {P : Program} {w : World} {K : Fg} {mg : Str → Option Value} {base : Heap}
abbrev spLaw (K : Fg) : Sp := spT (fun _ => fun _ _ => True) (fun ns : List Int => ns.length ≤ 63) (fun ns => [Hd K (.list (ns.map PyData.int))]) (fun _ => Hd K (.bool true))
abbrev nLaw : List Str := ["_law_script", "_law_feed_here", "_law_lap", "_law_classes_here", "_law_house_here", "_law_own", "_law_lot_here", "_law_fresh", "_law_later", "_law_label", "_law_sort"]
theorem f_law (T : Tx K mg) (Te' : Te mg) (E' : Tv K mg) (C : Tc P K mg) (TQ : Tq K) : FnG P w K mg base 13 (He.ga K "law") (spLaw K) := by
  obtain ⟨_, FK⟩ := T.d_law_kept_right.ex
  obtain ⟨_, FC⟩ := T.d_change_of.ex
  obtain ⟨_, FM⟩ := T.d_made.ex
  refine fng_of T.d_law sc_law bn_law (fun _ => rfl) fun cdv A0 outer s H E ns vs Q hr hg ok ha hQ => ?_
  obtain ⟨v, rfl, h1⟩ := all1 ha
  have ok : ns.length ≤ 63 := ok
  have big : 1000 ≤ sizeLine := by decide
  have hQ : ∀ v H', Hd K (.bool true) v H' → Q v H' := fun v H' q => hQ v H' True.intro q
  refine bs_set (i := 1) (φ := fun v H' => ∃ x : FdX, x.cs = ns ∧ Hf K x v H') rlEx sc_law.nd rfl (.inl rfl) (cE (f_law_feed T) ns hr ok (da_cons rlEx (mo_d rlEx) (vd 0 h1) (da_nil rlEx))) fun v1 H1 e1 q1 => ?_
  obtain ⟨x, _, rfl, hf⟩ := q1
  have r := rlRF K x
  have h11 : Dp K H1 v (.list (ns.map PyData.int)) := rlEx.dp e1 h1
  refine bs_for (src := List.range (if PyData.eqv (.list (ns.map PyData.int)) (.list []) = true then 1 else 5)) (g := gName 2) r PassesOwn.never rfl (src_range r (by rfl) (by exact T.z_range) (by split <;> decide) (de_up r fun H2 r2 => de_is (cE (f_law_laps T) (ns, 5) hr True.intro (da_cons rlEx (mo_d rlEx) (vd 0 (r.dp r2 h11)) (da_cons rlEx (mo_d rlEx) (de_int rlEx) (da_nil rlEx)))) (congrArg PyData.int (nolaw ns)))) (pg_name (i := 2) sc_law.nd rfl (.inl rfl))
    (fun H2 i σ' H' => ∃ c2 c3 c4 c5 c6 c7 c8 c9 c10, σ' = [some v, some (.ref x.f), c2, c3, c4, c5, c6, c7, c8, c9, c10] ∧ RF K x H2 H') (fun H2 _ => ⟨_, _, _, _, _, _, _, _, _, rfl, r.refl _⟩) (fun H2 i σ' H' _ _ ⟨_, _, _, _, _, _, _, _, _, _, z⟩ => z) ?_
    (fun H2 σ' H' _ ⟨_, _, _, _, _, _, _, _, _, eσ, _⟩ => by subst eσ; exact bs_ret (φ := Hd K (.bool true)) (de_bl rlEx) rlEx fun v' H3 _ q => hQ v' H3 q)
  rintro H2 i s0 y σ' H' H'' r2 _ ⟨c2, c3, c4, c5, c6, c7, c8, c9, c10, rfl, r3⟩ e3 hy
  have r12 : RF K x H1 H'' := r.trans (r.trans r2 r3) (r.ex e3)
  have r22 : RF K x H2 H'' := r.trans r3 (r.ex e3)
  have hfA : FdAt K x H'' := r12.2 hf
  refine g1 ?_
  -- classes, a store
  refine bs_set (i := 3) (φ := fun v H' => ∃ sch, SchOk sch ∧ Hs K sch v H') r sc_law.nd rfl (.inl rfl) (cR (f_law_classes T) x r (fun _ _ h => h) hr True.intro (da_cons r mo_f (vr 1 r mo_f ⟨rfl, hfA⟩) (da_nil r))) fun cv H3 r4 q3 => ?_
  obtain ⟨sch, so, hs3⟩ := q3
  refine bs_set (i := 4) (φ := fun v H' => ∃ st, st.sch = sch ∧ HoOk st ∧ HSto K st v H') r sc_law.nd rfl (.inr rfl) (cR (f_law_house T) (x, sch) r (fun _ _ h => h) hr so (da_cons r mo_f (vr 1 r mo_f ⟨rfl, r4.2 hfA⟩) (da_cons r (mo_fz r) (vr 3 r (mo_fz r) hs3) (da_cons r (mo_d r) (de_int r) (da_nil r))))) fun hv H4 r5 q4 => ?_
  obtain ⟨st, rfl, ho, h4⟩ := q4
  have r24 : RF K x H2 H4 := r.trans r22 (r.trans r4 r5)
  have hfA4 : FdAt K x H4 := r5.2 (r4.2 hfA)
  have s4 : Hs K st.sch cv H4 := mo_fz r _ _ _ r5 hs3
  have wf := hoWf ho
  have sl := ho.sch.len
  obtain ⟨fm0, rest0, esch⟩ := sch_head ho.sch
  have hfa : fnd "a" st.sch = some fm0 := by rw [esch]; rfl
  have nd0 : (fm0.map (·.1)).Nodup := up_nodup (lot_up (ho.sch.lot hfa))
  have len0 := lot_len (ho.sch.lot hfa)
  refine bs_for (src := st.sch) (g := gTup K 2 (gCons (gName 5) (gCons (gName 6) gNil))) r PassesOwn.never rfl (src_tup (f := dCls) r (vr 3 r (mo_d r) (hs_dp s4))) (pg_tup (X := _) rfl (pgs_cons (pg_name (i := 5) sc_law.nd rfl (.inr rfl)) (pgs_cons (pg_name (i := 6) sc_law.nd rfl (.inl rfl)) pgs_nil)))
    (fun H5 i σ' H' => ∃ c2 c5 c6 c7 c8 c9 c10, σ' = [some v, some (.ref x.f), c2, some cv, some hv, c5, c6, c7, c8, c9, c10] ∧ RF K x H5 H') (fun H5 _ => ⟨_, _, _, _, _, _, _, rfl, r.refl _⟩) (fun H5 i σ' H' _ _ ⟨_, _, _, _, _, _, _, _, z⟩ => z) ?_ ?_
  · rintro H5 i2 pr y2 σ' H6 H7 r6 hpr ⟨d2, d5, d6, d7, d8, d9, d10, rfl, r7⟩ e7 hy2
    have r47 : RF K x H4 H7 := r.trans (r.trans r6 r7) (r.ex e7)
    have r57 : RF K x H5 H7 := r.trans r7 (r.ex e7)
    obtain ⟨own, fm⟩ := pr
    have hmem : (own, fm) ∈ st.sch := List.mem_of_getElem? hpr
    have hown : own ∈ st.sch.map (·.1) := List.mem_map_of_mem (f := (·.1)) hmem
    have hfm : fnd own st.sch = some fm := fnd_of ho.sch.nd hmem
    have lot := ho.sch.lot hfm
    have len4 := lot_len lot
    have t7 : HSto K st hv H7 := mo_sto r _ _ _ r47 h4
    refine g2 hy2 fun ov lv o1 o2 => ?_
    have o2 : Dp K H7 lv (.tuple (fm.map dFld)) := o2
    refine bs_when (t := false) r (dt_w (dw_or (c := false) (c' := false) r (dt_not (c := true) (dt_val r ?_)) fun _ => dw_or1 (dt_not (c := true) (dt_val r ?_)))) (fun z => by cases z) fun _ H8 r8 => ?_
    · refine de_up r fun H8 r8 => ?_
      exact cG (f_law_kept_right (w := w) (base := base) T Te' E' C TQ) hg FK.kp T.g_law_kept_right ⟨st, own⟩ hr ⟨ho, hown⟩ (da_cons rlEx (mo_sto rlEx) (vr 4 rlEx (mo_sto rlEx) (mo_sto r _ _ _ r8 t7)) (da_cons rlEx (mo_d rlEx) (vd 5 (r.dp r8 o1)) (da_nil rlEx)))
    · exact cR (f_law_given_right T Te' E' C) ⟨x, st, own⟩ r (fun _ _ h => h) hr ⟨ho, hown⟩ (da_cons r mo_f (vr 1 r mo_f ⟨rfl, r47.2 hfA4⟩) (da_cons r (mo_sto r) (vr 4 r (mo_sto r) t7) (da_cons r (mo_d r) (vr 5 r (mo_d r) o1) (da_nil r))))
    have t8 : HSto K st hv H8 := mo_sto r _ _ _ r8 t7
    have o1 : Dp K H8 ov (.str own) := r.dp r8 o1
    have o2 : Dp K H8 lv (.tuple (fm.map dFld)) := r.dp r8 o2
    refine bs_when (t := false) rlEx (dt_is (c := !PyData.eqv (.list []) (.list [])) (dt_neD rlEx hr (de_is (de_lc (own := [("_law_label", 9), ("_law_sort", 10)]) (g := gTup K 2 (gCons (gName 9) (gCons (gName 10) gNil))) (src := fm) (bo := fun _ => false) (eo := fun _ => PyData.none) rlEx rfl sc_law.nd (blkOk_by (N := nLaw) (sc := defScope s_law) (by decide +kernel)) (src_tup (f := dFld) rlEx (vd 6 o2)) (by omega) (fun _ _ => rfl)
        (fun _ _ _ _ _ => pg_tup (X := _) rfl (pgs_cons (pg_name (i := 9) sc_law.nd rfl (.inl rfl)) (pgs_cons (pg_name (i := 10) sc_law.nd rfl (.inl rfl)) pgs_nil))) gm_2 fun p z H9 hp e9 hz => g2 hz fun z1 z2 p1 p2 => ⟨rfl, Ex.rfl' _, fun _ _ _ _ _ => dts_one (dt_not (c := true) (dt_val rlEx
          (cE (f_law_field_right T Te' E' C) ⟨st, own, p.1⟩ hr ⟨ho, fm, hfm, List.mem_map_of_mem hp⟩ (da_cons rlEx (mo_sto rlEx) (vst 4 t8 e9) (da_cons rlEx (mo_d rlEx) (vdm 5 o1 e9) (da_cons rlEx (mo_d rlEx) (vd 9 p1) (da_nil rlEx))))))), fun hb => by cases hb⟩) (by rw [filter_no]; rfl)) (de_lst rlEx (dd_nil rlEx)) (shn_ints []) (shn_ints [])) (by rfl)) (fun z => by cases z) fun _ H9 e9 => bs_nil ⟨_, _, _, _, _, _, _, rfl, r.trans r57 (r.trans r8 (r.ex e9))⟩
  · rintro H5 σ' H6 r6 ⟨d2, d5, d6, d7, d8, d9, d10, rfl, r7⟩
    have r46 : RF K x H4 H6 := r.trans r6 r7
    have t6 : HSto K st hv H6 := mo_sto r _ _ _ r46 h4
    have s6 : Hs K st.sch cv H6 := mo_fz r _ _ _ r46 s4
    have c6 : Dp K H6 cv (.tuple (st.sch.map dCls)) := hs_dp s6
    have co := ch_ok ho hfa
    refine bs_set (i := 7) (φ := Hd K (dRows (chRows fm0))) rlEx sc_law.nd rfl (.inl rfl) (de_callK (ψs := [Hd K (dForm nForm), IsCv K fm0 .kept]) (f_change_of T C) hr (by decide) rfl T.g_change_of FC.kp (pk_d (mo_d rlEx) (de_tup rlEx (dd_cons rlEx (de_tup rlEx (dd_cons rlEx (de_str rlEx) (dd_cons rlEx (de_tup rlEx (dd_cons rlEx (de_int rlEx) (dd_cons rlEx (de_int rlEx) (dd_nil rlEx)))) (dd_nil rlEx)))) (dd_nil rlEx)))
      (pk_d (mo_i (need_mo .kept)) (mk_kept (fm := fm0) T C hr (by decide) rfl (de_ixT (ds := [.str "a", dForm fm0]) (i := 1) rlEx (de_ixT (ds := st.sch.map dCls) (i := 0) (d := dCls ("a", fm0)) rlEx (vd 3 c6) (de_int rlEx) (by rw [esch]; exact atI_0)) (de_int rlEx) rfl)) pk_z)) rfl fun zs H7 e7 q Q' k => ⟨by rw [All2.length q]; rfl, fm0, ⟨nd0, by show fm0.length < 60; omega⟩, q, fun v H8 e8 b => k v H8 e8 b⟩) fun fv H7 e7 q7 => ?_
    have e67 := e7
    refine bs_set (i := 8) (φ := HSto K (if st.sch.length < 3 then chSto st (chRows fm0) else st)) rlEx sc_law.nd rfl (.inl rfl) (de_if (c := decide (((st.sch.map dCls).length : Int) < 3)) rlEx (dt_cmpI (g := fun i j => decide (i < j)) rlEx op_lt (de_lenT rlEx rfl T.z_len (vdm 3 c6 e7)) (de_int rlEx)) (fun z => ?_) (fun z => ?_)) fun gv H8 e8 q8 => ?_
    · have lt : st.sch.length < 3 := by
        have := of_decide_eq_true z
        rw [List.length_map] at this
        omega
      rw [if_pos lt]
      exact cE (f_changed T Te' E') (st, chRows fm0) hr ⟨wf.sto, co⟩ (da_cons rlEx (mo_sto rlEx) (vst 4 t6 e7) (da_cons rlEx (mo_d rlEx) (vd 7 q7) (da_nil rlEx)))
    · have lt : ¬ st.sch.length < 3 := by
        have := of_decide_eq_false z
        rw [List.length_map] at this
        omega
      rw [if_neg lt]
      exact vst 4 t6 e7
    have e68 := e7.tr e8
    have obs8 : (if st.sch.length < 3 then chSto st (chRows fm0) else st).obs = st.obs := by
      split
      · exact ch_obs ho hfa
      · rfl
    refine bs_when (t := false) rlEx (dt_w (dw_or (c := false) (c' := false) rlEx (dt_is (c := !PyData.eqv (.tuple (st.obs.map dOb)) (.tuple (st.obs.map dOb))) (dt_neD rlEx hr (de_is (de_sto2 (vst 8 q8 (Ex.rfl' _))) (by rw [obs8])) (de_sto2 (vst 4 t6 e68)) (shn_obs (n := 0) wf).sh (shn_obs (n := 0) wf).sh) (by rw [eqv_self (shn_obs (n := 0) wf)]; rfl)) fun _ => dw_or1 (dt_is (c := decide (((st.sch.map dCls).length : Int) < 3) && false) (dt_w (dw_and rlEx (dt_cmpI (g := fun i j => decide (i < j)) rlEx op_lt (de_lenT rlEx rfl T.z_len (vdm 3 c6 e68)) (de_int rlEx)) fun z => dw_and1 ?_)) (by simp)))) (fun z => by cases z) fun _ H9 e9 => ?_
    · have lt : st.sch.length < 3 := by
        have := of_decide_eq_true z
        rw [List.length_map] at this
        omega
      have sh : shn 5 (dSch (chSto st (chRows fm0)).sch) := shn_sch (n := 0) (fun p hp => (ch_sch_ok ho hfa p hp).1) fun p hp => (ch_sch_ok ho hfa p hp).2
      have q8 : HSto K (chSto st (chRows fm0)) gv H8 := by rw [if_pos lt] at q8; exact q8
      exact dt_is (dt_neD rlEx hr (de_imp (de_sto0 (vst 8 q8 (Ex.rfl' _))) (fun _ _ _ z => hs_dp z) rlEx) (de_imp (cE (f_schema_after T) (st.sch, chRows fm0) hr ⟨co.inn, by show st.sch.length < 1000; omega⟩ (da_cons rlEx (mo_fz rlEx) (vf 3 s6 e68) (da_cons rlEx (mo_d rlEx) (vdm 7 q7 e8) (da_nil rlEx)))) (fun _ _ _ z => hs_dp z) rlEx) sh.sh sh.sh) (by show (!PyData.eqv (dSch (chSto st (chRows fm0)).sch) (dSch (chSto st (chRows fm0)).sch)) = false; rw [eqv_self sh]; rfl)
    have e69 := e68.tr e9
    refine bs_when (t := false) rlEx (dt_is (c := decide (((st.sch.map dCls).length : Int) < 3) && false) (dt_w (dw_and rlEx (dt_cmpI (g := fun i j => decide (i < j)) rlEx op_lt (de_lenT rlEx rfl T.z_len (vdm 3 c6 e69)) (de_int rlEx)) fun z => dw_and1 ?_)) (by simp)) (fun z => by cases z) fun _ H10 e10 => bs_nil ⟨_, _, _, _, _, _, _, _, _, rfl, r.trans r24 (r.trans r46 (r.ex (e69.tr e10)))⟩
    have lt : st.sch.length < 3 := by
      have := of_decide_eq_true z
      rw [List.length_map] at this
      omega
    have q8 : HSto K (chSto st (chRows fm0)) gv H8 := by rw [if_pos lt] at q8; exact q8
    have mok : MdX.ok ⟨chSto st (chRows fm0), "zzzzzzzz", "n", 2, 5, 4⟩ := ⟨ch_nd ho hfa, nm_zs, ch_new ho hfa, (by decide : (2 : Int) ≤ 4), (by decide : (4 : Int) ≤ 5), by show (chSto st (chRows fm0)).obs.length < 900; rw [ch_obs ho hfa]; have := wf.few.2; omega⟩
    have shx : shn 2 (.tuple [.int st.lim, .str "zzzzzzzz", .tuple [.int 4]]) := shn_t3 (n := 1) shn_int (shn_nm nm_zs) (shn_t1 (n := 0) shn_int)
    refine dt_is (dt_neD (d := .tuple [.int st.lim, .str "zzzzzzzz", .tuple [.int 4]]) (d' := .tuple [.int st.lim, .str "zzzzzzzz", .tuple [.int 4]]) rlEx hr (de_ixT (ds := st.obs.map dOb ++ [.tuple [.int st.lim, .str "zzzzzzzz", .tuple [.int 4]]]) (i := -1) rlEx (de_ixT (ds := [dSch (chSto st (chRows fm0)).sch, .int (st.lim + 1), .tuple (st.obs.map dOb ++ [.tuple [.int st.lim, .str "zzzzzzzz", .tuple [.int 4]]])]) (i := 2) rlEx (de_is (de_callR (f_made T) FM.kp T.g_made ⟨chSto st (chRows fm0), "zzzzzzzz", "n", 2, 5, 4⟩ hr (by decide) mok (fun _ _ h => h) rfl (da_cons rlEx (mo_sto rlEx) (vst 8 q8 e9) (da_cons rlEx (mo_d rlEx) (de_str rlEx) (da_cons rlEx (mo_d rlEx) (de_int rlEx) (da_nil rlEx))))) ?_) (de_int rlEx) rfl) (de_neg (de_int rlEx)) (at_last _ _))
      (de_tup rlEx (dd_cons rlEx (de_sto1 (vst 4 t6 e69)) (dd_cons rlEx (de_str rlEx) (dd_cons rlEx (de_tup rlEx (dd_cons rlEx (de_int rlEx) (dd_nil rlEx))) (dd_nil rlEx))))) shx.sh shx.sh) (by rw [eqv_self shx]; rfl)
    show PyData.tuple [dSch (chSto st (chRows fm0)).sch, .int (st.lim + 1), .tuple ((chSto st (chRows fm0)).obs.map dOb ++ [.tuple [.int st.lim, .str "zzzzzzzz", .tuple [.int 4]]])] = _
    rw [ch_obs ho hfa]
end
end Lf
set_option maxHeartbeats 4000000
/-! Hd1 (printed by gen_hd.py): what the facts of the top give. -/
namespace Lf
open PySem PySem.Spec L2
open PyProof.Rows hiding St wpAt wpAt_bind wpAt_mono
theorem DD.dfk {K : Fg} {d : DD} {D : Addr} (e : fnK K (d.adr K) = d.val) (c : d.ok K = true) (h : d.cl = [cname]) (s : supB K (d.adr K) D = true) (hs : (((defArgs d.st).posonlyargs ++ (defArgs d.st).args).head?.map (·.arg)) = some ("self" : Str)) : ∃ cc, DfK K PR (d.adr K) cc D d.nm d.qual d.st := by
  obtain ⟨oc, od, osl, kV, doc, pm, an, cdv, ct, cl, lk, hc, hl⟩ := DD.look e c
  obtain ⟨cc, rfl⟩ : ∃ cc, cl = [(cname, cc)] := by
    rw [h] at hl
    cases cl with
    | nil => cases hl
    | cons p r =>
      cases r with
      | nil =>
        have : p.1 = cname := by simpa using hl
        exact ⟨p.2, by rw [← this]⟩
      | cons _ _ => simp at hl
  unfold supB at s
  rw [lk] at s
  obtain ⟨s1, s23⟩ := He.ba s
  obtain ⟨s2, s3⟩ := He.ba s23
  have cell := cellTo_ok (show cellTo K cc D = true from s1)
  have clsD := clsB_ok s3
  obtain ⟨o, vs, file, tf, f1, f2, f3, f4⟩ := fileIs_ok (show fileIs K (adA cdv) = true from s2)
  obtain ⟨cda, rfl⟩ : ∃ cda, cdv = .ref cda := by
    cases cdv with
    | ref a => exact ⟨a, rfl⟩
    | _ => cases hc
  have code : ∃ cda' o vs file tf, (Value.ref cda) = .ref cda' ∧ K.lookup cda' = some o ∧ o.data = .fields vs ∧ vs[2]? = some (.str file tf) ∧ ((PR.main.file : Str) == file) = true := ⟨cda, o, vs, file, tf, rfl, f1, f2, f3, f4⟩
  obtain ⟨ar, har, hself⟩ : ∃ ar, ((defArgs d.st).posonlyargs ++ (defArgs d.st).args).head? = some ar ∧ ar.arg = ("self" : Str) := Option.map_eq_some_iff.mp hs
  obtain ⟨oC, hoC, dC⟩ := cell
  exact ⟨cc, ⟨oc, od, kV, doc, pm, an, .ref cda, ct, osl, some (.ref D), lk, hc, ⟨oC, hoC, dC⟩, ⟨⟨_, _, ar, lk, rfl, har, hself⟩, code, ⟨oC, hoC, dC⟩, clsD⟩⟩, top_super⟩
section
variable {K : Fg}
theorem SaysL.one (c : SaysL K) : ((faL.all fun f => f.ok K) && ((fxL K).all id && ddL.all fun d => d.ok K)) = true := congrArg (fun z : AlL => z.1) c
theorem fa_at (c : SaysL K) (i : Nat) {f : He.Fa} (h : faL[i]? = some f := by rfl) : f.ok K = true := List.all_eq_true.mp (He.ba c.one).1 f (List.mem_of_getElem? h)
theorem fx_at (c : SaysL K) (i : Nat) {b : Bool} (h : (fxL K)[i]? = some b := by rfl) : b = true := List.all_eq_true.mp (He.ba (He.ba c.one).2).1 b (List.mem_of_getElem? h)
theorem dd_ok (c : SaysL K) (i : Nat) {d : DD} (h : ddL[i]? = some d) : d.ok K = true ∧ fnK K (d.adr K) = d.val := by
  refine ⟨List.all_eq_true.mp (He.ba (He.ba c.one).2).2 d (List.mem_of_getElem? h), ?_⟩
  have e : ddL.map (fun d => fnK K (d.adr K)) = ddL.map DD.val := congrArg (fun z : AlL => z.2) c
  have e2 : (ddL.map fun d => fnK K (d.adr K))[i]? = (ddL.map DD.val)[i]? := by rw [e]
  rw [List.getElem?_map, List.getElem?_map, h] at e2
  exact Option.some.inj e2
theorem dd_df (c : SaysL K) (i : Nat) {d : DD} (h : ddL[i]? = some d) (hc : d.cl = [] := by rfl) : Df K (d.adr K) d.nm d.qual d.st := DD.df (dd_ok c i h).2 (dd_ok c i h).1 hc
theorem dd_dfk (c : SaysL K) (i : Nat) {d : DD} {D : Addr} (h : ddL[i]? = some d) (s : supB K (d.adr K) D = true) (hc : d.cl = [cname] := by rfl) (hs : (((defArgs d.st).posonlyargs ++ (defArgs d.st).args).head?.map (·.arg)) = some ("self" : Str) := by rfl) : ∃ cc, DfK K PR (d.adr K) cc D d.nm d.qual d.st := DD.dfk (dd_ok c i h).2 (dd_ok c i h).1 hc s hs
variable {h : Heap} {mg : Str → Option Value}
theorem says_tx (c : SaysL K) (X : K.In h) (G : h.Ns mainGlobals mg) : Tx K mg where
  d_kept_expression := dd_df c 0 rfl
  g_kept_expression := He.glo_ok X G (fa_at c 0)
  d_Kept_init := dd_df c 1 rfl
  d_Kept_entries := dd_df c 2 rfl
  d_Kept_row_of := dd_df c 3 rfl
  d_Kept_eq := dd_df c 4 rfl
  d_change_of := dd_df c 5 rfl
  g_change_of := He.glo_ok X G (fa_at c 1)
  d_is_integer := dd_df c 6 rfl
  g_is_integer := He.glo_ok X G (fa_at c 2)
  d_is_number := dd_df c 7 rfl
  g_is_number := He.glo_ok X G (fa_at c 3)
  d_is_name := dd_df c 8 rfl
  g_is_name := He.glo_ok X G (fa_at c 4)
  d_is_pair := dd_df c 9 rfl
  g_is_pair := He.glo_ok X G (fa_at c 5)
  d_is_range := dd_df c 10 rfl
  g_is_range := He.glo_ok X G (fa_at c 6)
  d_is_kind := dd_df c 11 rfl
  g_is_kind := He.glo_ok X G (fa_at c 7)
  d_rises := dd_df c 12 rfl
  g_rises := He.glo_ok X G (fa_at c 8)
  d_is_named_rows := dd_df c 13 rfl
  g_is_named_rows := He.glo_ok X G (fa_at c 9)
  d_is_form := dd_df c 14 rfl
  g_is_form := He.glo_ok X G (fa_at c 10)
  d_form_of := dd_df c 15 rfl
  g_form_of := He.glo_ok X G (fa_at c 11)
  d_kind_of := dd_df c 16 rfl
  g_kind_of := He.glo_ok X G (fa_at c 12)
  d_path_kind := dd_df c 17 rfl
  g_path_kind := He.glo_ok X G (fa_at c 13)
  d_is_total := dd_df c 18 rfl
  g_is_total := He.glo_ok X G (fa_at c 14)
  d_is_worded := dd_df c 19 rfl
  g_is_worded := He.glo_ok X G (fa_at c 15)
  d_choice_parts := dd_df c 20 rfl
  g_choice_parts := He.glo_ok X G (fa_at c 16)
  d_number_parts := dd_df c 21 rfl
  g_number_parts := He.glo_ok X G (fa_at c 17)
  d_condition_parts := dd_df c 22 rfl
  g_condition_parts := He.glo_ok X G (fa_at c 18)
  d_link_parts := dd_df c 23 rfl
  g_link_parts := He.glo_ok X G (fa_at c 19)
  d_fitting_parts := dd_df c 24 rfl
  g_fitting_parts := He.glo_ok X G (fa_at c 20)
  d_lets_expression := dd_df c 25 rfl
  g_lets_expression := He.glo_ok X G (fa_at c 21)
  d_fits := dd_df c 26 rfl
  g_fits := He.glo_ok X G (fa_at c 22)
  d_computed := dd_df c 27 rfl
  g_computed := He.glo_ok X G (fa_at c 23)
  d_Evaluator_look := dd_df c 28 rfl
  d_Evaluator_members := dd_df c 29 rfl
  d_Evaluator_holder := dd_df c 30 rfl
  d_Evaluator_led_to := dd_df c 31 rfl
  d_Evaluator_amount := dd_df c 32 rfl
  d_Evaluator_summed := dd_df c 33 rfl
  d_Evaluator_holds := dd_df c 34 rfl
  d_Evaluator_link := dd_df c 35 rfl
  d_PlainEvaluator_init := dd_df c 36 rfl
  d_PlainEvaluator_look := dd_df c 37 rfl
  d_PlainEvaluator_members := dd_df c 38 rfl
  d_require_object := dd_df c 39 rfl
  g_require_object := He.glo_ok X G (fa_at c 24)
  d_number_at := dd_df c 40 rfl
  g_number_at := He.glo_ok X G (fa_at c 25)
  d_link_at := dd_df c 41 rfl
  g_link_at := He.glo_ok X G (fa_at c 26)
  d_require_change := dd_df c 42 rfl
  g_require_change := He.glo_ok X G (fa_at c 27)
  d_has_change_shape := dd_df c 43 rfl
  g_has_change_shape := He.glo_ok X G (fa_at c 28)
  d_check_classes := dd_df c 44 rfl
  g_check_classes := He.glo_ok X G (fa_at c 29)
  d_check_links := dd_df c 45 rfl
  g_check_links := He.glo_ok X G (fa_at c 30)
  d_check_fits := dd_df c 46 rfl
  g_check_fits := He.glo_ok X G (fa_at c 31)
  d_lets_change := dd_df c 47 rfl
  g_lets_change := He.glo_ok X G (fa_at c 32)
  d_is_change := dd_df c 48 rfl
  g_is_change := He.glo_ok X G (fa_at c 33)
  d_schema_after := dd_df c 49 rfl
  g_schema_after := He.glo_ok X G (fa_at c 34)
  d_value_for := dd_df c 50 rfl
  g_value_for := He.glo_ok X G (fa_at c 35)
  d_changed := dd_df c 51 rfl
  g_changed := He.glo_ok X G (fa_at c 36)
  d_require_step := dd_df c 52 rfl
  g_require_step := He.glo_ok X G (fa_at c 37)
  d_is_value := dd_df c 53 rfl
  g_is_value := He.glo_ok X G (fa_at c 38)
  d_made := dd_df c 54 rfl
  g_made := He.glo_ok X G (fa_at c 39)
  d_law_feed := dd_df c 55 rfl
  g_law_feed := He.glo_ok X G (fa_at c 40)
  d_law_draw := dd_df c 56 rfl
  g_law_draw := He.glo_ok X G (fa_at c 41)
  d_law_laps := dd_df c 57 rfl
  g_law_laps := He.glo_ok X G (fa_at c 42)
  d_law_any := dd_df c 58 rfl
  g_law_any := He.glo_ok X G (fa_at c 43)
  d_law_lot := dd_df c 59 rfl
  g_law_lot := He.glo_ok X G (fa_at c 44)
  d_law_classes := dd_df c 60 rfl
  g_law_classes := He.glo_ok X G (fa_at c 45)
  d_law_fitting := dd_df c 61 rfl
  g_law_fitting := He.glo_ok X G (fa_at c 46)
  d_law_values := dd_df c 62 rfl
  g_law_values := He.glo_ok X G (fa_at c 47)
  d_law_house := dd_df c 63 rfl
  g_law_house := He.glo_ok X G (fa_at c 48)
  d_law_column := dd_df c 64 rfl
  g_law_column := He.glo_ok X G (fa_at c 49)
  d_law_by := dd_df c 65 rfl
  g_law_by := He.glo_ok X G (fa_at c 50)
  d_law_field_right := dd_df c 66 rfl
  g_law_field_right := He.glo_ok X G (fa_at c 51)
  d_law_given_right := dd_df c 67 rfl
  g_law_given_right := He.glo_ok X G (fa_at c 52)
  d_law_kept_right := dd_df c 68 rfl
  g_law_kept_right := He.glo_ok X G (fa_at c 53)
  d_law := dd_df c 69 rfl
  g_law := He.glo_ok X G (fa_at c 54)
  z_len := He.free_ok X G (fa_at c 55)
  z_isinstance := He.free_ok X G (fa_at c 56)
  z_tuple := He.free_ok X G (fa_at c 57)
  z_list := He.free_ok X G (fa_at c 58)
  z_dict := He.free_ok X G (fa_at c 59)
  z_sorted := He.free_ok X G (fa_at c 60)
  z_enumerate := He.free_ok X G (fa_at c 61)
  z_zip := He.free_ok X G (fa_at c 62)
  z_range := He.free_ok X G (fa_at c 63)
  z_all := He.free_ok X G (fa_at c 64)
  z_int := He.free_ok X G (fa_at c 65)
  z_max := He.free_ok X G (fa_at c 66)
  z_min := He.free_ok X G (fa_at c 67)
  z_repr := He.free_ok X G (fa_at c 68)
  z_str := He.free_ok X G (fa_at c 69)
  z_super := He.free_ok X G (fa_at c 70)
  z_bool := He.free_ok X G (fa_at c 71)
  c_LONGEST := He.int_ok X G (fa_at c 72)
  c_LETTERS := He.str_ok X G (fa_at c 73)
  c_CONDITION := He.str_ok X G (fa_at c 74)
  c_NUMBER_WORDS := ⟨_, He.glo_ok X G (fa_at c 75), fun H => He.tupB_ok (fx_at c 0) H⟩
theorem says_te (c : SaysL K) (X : K.In h) (G : h.Ns mainGlobals mg) : Te mg where
  unfit := ⟨_, He.glo_ok X G (fa_at c 76)⟩
  paper := ⟨_, He.glo_ok X G (fa_at c 77)⟩
theorem says_tv (c : SaysL K) (X : K.In h) (G : h.Ns mainGlobals mg) : Tv K mg where
  g := He.glo_ok X G (fa_at c 78)
  cls := He.cls_ok (fa_at c 79)
  nC := He.noat_ok (fa_at c 80)
  nR := He.noat_ok (fa_at c 81)
  nN := He.noat_ok (fa_at c 82)
  make := ⟨fx_at c 1, He.eqO_ok (fx_at c 2), fx_at c 3, fx_at c 4⟩
  look := ⟨He.eqO_ok (fx_at c 5), fx_at c 6, fx_at c 7⟩
  holder := ⟨He.eqO_ok (fx_at c 8), fx_at c 9, fx_at c 10⟩
  led := ⟨He.eqO_ok (fx_at c 11), fx_at c 12, fx_at c 13⟩
  amount := ⟨He.eqO_ok (fx_at c 14), fx_at c 15, fx_at c 16⟩
  link := ⟨He.eqO_ok (fx_at c 17), fx_at c 18, fx_at c 19⟩
theorem says_tc (c : SaysL K) (X : K.In h) (G : h.Ns mainGlobals mg) : Tc PR K mg where
  gK := He.glo_ok X G (fa_at c 83)
  gR := He.glo_ok X G (fa_at c 84)
  gO := He.glo_ok X G (fa_at c 85)
  gW := He.glo_ok X G (fa_at c 86)
  gB := He.glo_ok X G (fa_at c 87)
  cK := ⟨He.cls_ok (fa_at c 88), He.noat_ok (fa_at c 89), He.noat_ok (fa_at c 90), He.noat_ok (fa_at c 91), He.noat_ok (fa_at c 92), He.noat_ok (fa_at c 93), He.noat_ok (fa_at c 94), He.eqO_ok (fx_at c 20), He.eqO_ok (fx_at c 21), of_decide_eq_true (fx_at c 22), of_decide_eq_true (fx_at c 23)⟩
  cR := ⟨He.cls_ok (fa_at c 95), He.noat_ok (fa_at c 96), He.noat_ok (fa_at c 97), He.noat_ok (fa_at c 98), He.noat_ok (fa_at c 99), He.noat_ok (fa_at c 100), He.noat_ok (fa_at c 101), He.eqO_ok (fx_at c 24), He.eqO_ok (fx_at c 21), of_decide_eq_true (fx_at c 22), of_decide_eq_true (fx_at c 25)⟩
  cO := ⟨He.cls_ok (fa_at c 102), He.noat_ok (fa_at c 103), He.noat_ok (fa_at c 104), He.noat_ok (fa_at c 105), He.noat_ok (fa_at c 106), He.noat_ok (fa_at c 107), He.noat_ok (fa_at c 108), He.eqO_ok (fx_at c 26), He.eqO_ok (fx_at c 21), of_decide_eq_true (fx_at c 22), of_decide_eq_true (fx_at c 27)⟩
  cW := ⟨He.cls_ok (fa_at c 109), He.noat_ok (fa_at c 110), He.noat_ok (fa_at c 111), He.noat_ok (fa_at c 112), He.noat_ok (fa_at c 113), He.noat_ok (fa_at c 114), He.noat_ok (fa_at c 115), He.eqO_ok (fx_at c 28), He.eqO_ok (fx_at c 21), of_decide_eq_true (fx_at c 22), of_decide_eq_true (fx_at c 29)⟩
  cB := ⟨He.cls_ok (fa_at c 116), He.noat_ok (fa_at c 117), He.noat_ok (fa_at c 118), He.noat_ok (fa_at c 119), He.noat_ok (fa_at c 120), He.noat_ok (fa_at c 121), He.noat_ok (fa_at c 122), He.eqO_ok (fx_at c 30), He.eqO_ok (fx_at c 21), of_decide_eq_true (fx_at c 22), of_decide_eq_true (fx_at c 31)⟩
  pK := ⟨⟨_, _, ⟨He.eqO_ok (fx_at c 32), He.eqO_ok (fx_at c 33), of_decide_eq_true (fx_at c 34), prG_ok (fx_at c 35)⟩, dd_df c 70 rfl⟩, ⟨_, _, ⟨He.eqO_ok (fx_at c 36), He.eqO_ok (fx_at c 37), of_decide_eq_true (fx_at c 38), prG_ok (fx_at c 39)⟩, dd_df c 71 rfl⟩, ⟨He.eqO_ok (fx_at c 40), fx_at c 41, fx_at c 42⟩⟩
  pR := ⟨⟨_, _, ⟨He.eqO_ok (fx_at c 43), He.eqO_ok (fx_at c 33), of_decide_eq_true (fx_at c 34), prG_ok (fx_at c 35)⟩, dd_df c 70 rfl⟩, ⟨_, _, ⟨He.eqO_ok (fx_at c 44), He.eqO_ok (fx_at c 37), of_decide_eq_true (fx_at c 38), prG_ok (fx_at c 39)⟩, dd_df c 71 rfl⟩, ⟨He.eqO_ok (fx_at c 45), fx_at c 41, fx_at c 42⟩⟩
  pO := ⟨⟨_, _, ⟨He.eqO_ok (fx_at c 46), He.eqO_ok (fx_at c 33), of_decide_eq_true (fx_at c 34), prG_ok (fx_at c 35)⟩, dd_df c 70 rfl⟩, ⟨_, _, ⟨He.eqO_ok (fx_at c 47), He.eqO_ok (fx_at c 37), of_decide_eq_true (fx_at c 38), prG_ok (fx_at c 39)⟩, dd_df c 71 rfl⟩, ⟨He.eqO_ok (fx_at c 48), fx_at c 41, fx_at c 42⟩⟩
  pW := ⟨⟨_, _, ⟨He.eqO_ok (fx_at c 49), He.eqO_ok (fx_at c 33), of_decide_eq_true (fx_at c 34), prG_ok (fx_at c 35)⟩, dd_df c 70 rfl⟩, ⟨_, _, ⟨He.eqO_ok (fx_at c 50), He.eqO_ok (fx_at c 37), of_decide_eq_true (fx_at c 38), prG_ok (fx_at c 39)⟩, dd_df c 71 rfl⟩, ⟨He.eqO_ok (fx_at c 51), fx_at c 41, fx_at c 42⟩⟩
  pB := ⟨⟨_, _, ⟨He.eqO_ok (fx_at c 52), He.eqO_ok (fx_at c 33), of_decide_eq_true (fx_at c 34), prG_ok (fx_at c 35)⟩, dd_df c 70 rfl⟩, ⟨_, _, ⟨He.eqO_ok (fx_at c 53), He.eqO_ok (fx_at c 37), of_decide_eq_true (fx_at c 38), prG_ok (fx_at c 39)⟩, dd_df c 71 rfl⟩, ⟨He.eqO_ok (fx_at c 54), fx_at c 41, fx_at c 42⟩⟩
  mK := ⟨fx_at c 55, He.eqO_ok (fx_at c 56), fx_at c 57, fx_at c 58⟩
  mR := ⟨fx_at c 59, He.eqO_ok (fx_at c 60), fx_at c 61, fx_at c 62⟩
  mO := ⟨fx_at c 63, He.eqO_ok (fx_at c 64), fx_at c 65, fx_at c 66⟩
  mW := ⟨fx_at c 67, He.eqO_ok (fx_at c 68), fx_at c 69, fx_at c 70⟩
  mB := ⟨fx_at c 71, He.eqO_ok (fx_at c 72), fx_at c 61, fx_at c 73⟩
  eK := ⟨He.eqO_ok (fx_at c 74), fx_at c 75, fx_at c 76⟩
  eR := ⟨He.eqO_ok (fx_at c 77), fx_at c 78, fx_at c 79⟩
  eO := ⟨He.eqO_ok (fx_at c 80), fx_at c 81, fx_at c 82⟩
  eW := ⟨He.eqO_ok (fx_at c 83), fx_at c 84, fx_at c 85⟩
  eB := ⟨He.eqO_ok (fx_at c 86), fx_at c 78, fx_at c 79⟩
  dRi := dd_dfk c 72 rfl (fx_at c 87)
  dRe := dd_dfk c 73 rfl (fx_at c 88)
  dOi := dd_dfk c 74 rfl (fx_at c 89)
  dOe := dd_dfk c 75 rfl (fx_at c 90)
  dWi := dd_dfk c 76 rfl (fx_at c 91)
  dWe := dd_dfk c 77 rfl (fx_at c 92)
  fi := fx_at c 93
  fe := fx_at c 94
  fwi := fx_at c 95
  fwe := fx_at c 96
  sRi := ⟨of_decide_eq_true (fx_at c 97), He.eqO_ok (fx_at c 98), of_decide_eq_true (fx_at c 99), He.eqO_ok (fx_at c 100)⟩
  sRe := ⟨of_decide_eq_true (fx_at c 97), He.eqO_ok (fx_at c 101), of_decide_eq_true (fx_at c 102), He.eqO_ok (fx_at c 100)⟩
  sOi := ⟨of_decide_eq_true (fx_at c 103), He.eqO_ok (fx_at c 104), of_decide_eq_true (fx_at c 99), He.eqO_ok (fx_at c 100)⟩
  sOe := ⟨of_decide_eq_true (fx_at c 103), He.eqO_ok (fx_at c 105), of_decide_eq_true (fx_at c 102), He.eqO_ok (fx_at c 100)⟩
  sWi := ⟨of_decide_eq_true (fx_at c 106), He.eqO_ok (fx_at c 107), of_decide_eq_true (fx_at c 99), He.eqO_ok (fx_at c 100)⟩
  sWe := ⟨of_decide_eq_true (fx_at c 106), He.eqO_ok (fx_at c 108), of_decide_eq_true (fx_at c 102), He.eqO_ok (fx_at c 100)⟩
  sBi := ⟨of_decide_eq_true (fx_at c 109), He.eqO_ok (fx_at c 110), of_decide_eq_true (fx_at c 111), He.eqO_ok (fx_at c 100)⟩
  sBe := ⟨of_decide_eq_true (fx_at c 109), He.eqO_ok (fx_at c 112), of_decide_eq_true (fx_at c 113), He.eqO_ok (fx_at c 100)⟩
  sBi2 := ⟨of_decide_eq_true (fx_at c 114), He.eqO_ok (fx_at c 115), of_decide_eq_true (fx_at c 99), He.eqO_ok (fx_at c 100)⟩
  sBe2 := ⟨of_decide_eq_true (fx_at c 114), He.eqO_ok (fx_at c 116), of_decide_eq_true (fx_at c 102), He.eqO_ok (fx_at c 100)⟩
  isi := all5_ok (of_decide_eq_true (fx_at c 117)) (of_decide_eq_true (fx_at c 118)) (of_decide_eq_true (fx_at c 119)) (of_decide_eq_true (fx_at c 120)) (of_decide_eq_true (fx_at c 121))
  isT := all1_ok (of_decide_eq_true (fx_at c 122))
theorem says_tq (c : SaysL K) (X : K.In h) (G : h.Ns mainGlobals mg) : Tq K where
  eq := all2_ok (He.eqO_ok (fx_at c 123)) (He.eqO_ok (fx_at c 124))
  ne := all2_ok (He.eqO_ok (fx_at c 125)) (He.eqO_ok (fx_at c 126))
  fn := fx_at c 127
  sub := all2_ok (of_decide_eq_true (fx_at c 128)) (of_decide_eq_true (fx_at c 129))
  df := all2_ok (of_decide_eq_true (fx_at c 130)) (of_decide_eq_true (fx_at c 131))
end
end Lf
set_option maxHeartbeats 4000000
/-! Hd3: the law's def asked behind the top, where no guard stands around. -/
namespace Lf
open PySem PySem.Spec L2
open PyProof.Rows hiding St wpAt wpAt_bind wpAt_mono
/-- the script as the module's own object, or as one that is locked -/
structure ScriptAt (P : Program) (w : World) (K : Fg) (h : Heap) (a : Addr) (ns : List Int) (H : Hp) : Prop where
  only : Only H
  seq : SqL K H a (ns.map V.int)
  ok : HOk P w H h
  at_ : ∀ b, H b ≠ none → b = a
  own : H a ≠ none → K.lookup a = none
theorem script_at {P : Program} {w : World} {K : Fg} {h : Heap} {a : Addr} {us : List Value} {ns : List Int} (kin : K.In h) (ga : h.get? a = some { cls := .type "list", data := .seq us.toArray }) (hi : IntsAre us ns) (hl : ns.length ≤ sizeLine) : ∃ H, ScriptAt P w K h a ns H := by
  have rv := vals_ints hi
  have lu : us.length = ns.length := hi.length
  by_cases hk : ∃ o, K.lookup a = some o
  · obtain ⟨o, hk⟩ := hk
    have e := kin a o hk
    rw [ga] at e
    have eo : o = { cls := .type "list", data := .seq us.toArray } := (Option.some.inj e).symm
    subst eo
    have sq : SqL K (fun _ => none) a (ns.map V.int) := by
      refine .inr ⟨_, us.toArray, _, hk, rfl, rfl, rfl, ?_, ?_⟩
      · rw [List.size_toArray, lu]; exact hl
      · simpa using rv
    exact ⟨fun _ => none, fun _ => .inl rfl, sq, fun b u z => (nomatch (show (none : Option HO) = some u from z)), fun b z => (z rfl).elim, fun z => (z rfl).elim⟩
  · have hkn : K.lookup a = none := by
      cases q : K.lookup a with
      | none => rfl
      | some o => exact (hk ⟨o, q⟩).elim
    have at1 : upd (fun _ => none) a (.frz { cls := .type "list", data := .seq us.toArray } (.lst (ns.map V.int))) a = some (.frz { cls := .type "list", data := .seq us.toArray } (.lst (ns.map V.int))) := upd_same
    have at2 : ∀ b, b ≠ a → upd (fun _ => none) a (.frz { cls := .type "list", data := .seq us.toArray } (.lst (ns.map V.int))) b = none := fun b n => upd_ne n
    refine ⟨upd (fun _ => none) a (.frz { cls := .type "list", data := .seq us.toArray } (.lst (ns.map V.int))), fun b => ?_, .inl (.inr ⟨_, at1⟩), fun b u z => ?_, fun b z => ?_, fun _ => hkn⟩
    · rcases Classical.em (b = a) with rfl | n
      · exact .inr ⟨_, _, at1⟩
      · exact .inl (at2 b n)
    · rcases Classical.em (b = a) with rfl | n
      · rw [at1] at z
        have ez := (Option.some.inj z).symm
        subst ez
        exact ⟨ga, by rw [List.length_map]; exact hl, us, _, rv, ga⟩
      · rw [at2 b n] at z
        cases z
    · rcases Classical.em (b = a) with e | n
      · exact e
      · exact (z (at2 b n)).elim
theorem law_g {P : Program} {w : World} {K : Fg} {mg mb : Str → Option Value} {k : Nat} {fa a : Addr} {sp : Sp} {s : Shared} {us : List Value} {ns : List Int} (kin : K.In s.heap) (gns : s.heap.Ns mainGlobals mg) (gb : s.heap.Ns builtinsNs mb) (hmb : ∀ y : Str, y ≠ "__name__" → mb y = bootBuiltins y) (nl : s.heap.NoLimit) (ng : s.gens = #[])
    (ga : s.heap.get? a = some { cls := .type "list", data := .seq us.toArray }) (hi : IntsAre us ns) (hl : ns.length ≤ sizeLine) (room : Room k callerA) (F : ∀ base : Heap, FnG P w K mg base k fa sp)
    (hsp : ∀ H : Hp, SqL K H a (ns.map V.int) → sp [.ref a] H (fun v _ => v = .bl true) E0) :
    codeAny (model P w) callerA (.call (.ref fa) ⟨[.ref a], []⟩) (fun r s2 => r = .ok (.ret (.bool true)) ∧ OldK s.heap s2.heap ∧ s2.os = s.os ∧ AllBare s2.gens) s := by
  obtain ⟨H, only, seq, ok, at_, own⟩ := script_at (P := P) (w := w) kin ga hi hl
  -- what is not tracked stands in the base
  have stay : ∀ {b : Addr} {o : Obj}, s.heap.get? b = some o → (b = a → H a = none) → (hidT s.heap H).get? b = some o := fun {b o} e n => hidT_get e (by
    cases q : H b with
    | none => rfl
    | some u =>
      have eb := at_ b (by rw [q]; exact fun z => nomatch z)
      rw [eb, n eb] at q
      cases q)
  have nsStay : ∀ {b : Addr} {m : Str → Option Value}, s.heap.Ns b m → (hidT s.heap H).Ns b m := fun {b m} ⟨o, es, ep, e1, e2, e3⟩ => ⟨o, es, ep, stay e1 (fun eb => by
    subst eb
    rw [ga] at e1
    have eo := (Option.some.inj e1).symm
    subst eo
    cases e2), e2, e3⟩
  have kinB : K.In (hidT s.heap H) := fun b o e => stay (kin b o e) fun eb => by
    subst eb
    cases q : H b with
    | none => rfl
    | some u =>
      have z := own (by rw [q]; exact fun z => nomatch z)
      rw [z] at e
      cases e
  obtain ⟨ml, nl1, nl2⟩ := nl
  have md : Mod K mg (hidT s.heap H) := ⟨kinB, nsStay gns, ⟨mb, nsStay gb, hmb⟩, ml, nsStay nl1, nl2⟩
  have noF : ∀ {b : Addr} {p : Prop}, b ∈ ([] : List Addr) → p := fun z => by cases z
  have e0 : Env0 P w K mg (hidT s.heap H) callerA [] s H := ⟨rfl, md, fun b o e => of_hidT e, Nat.le_of_eq (hidT_size _ _), trivial, fun b hb => noF hb, ok, .of_eq ng⟩
  have run := F (hidT s.heap H) callerA [] s H [.ref a] [.ref a] _ _ room rfl e0 (.cons rfl .nil) (hsp H seq)
  refine codeAny_mono run fun r s2 hq => ?_
  cases r with
  | error e => exact hq.elim
  | ok fl =>
    cases fl with
    | ret u =>
      obtain ⟨v, H2, os, bare, un, ok2, rv, q⟩ := hq
      have q : v = .bl true := q
      subst q
      have eu : u = Value.bool true := rv
      subst eu
      refine ⟨rfl, OldK.of_keep fun b o e => ?_, os, bare⟩
      rcases only b with z | ⟨ob, xs, z⟩
      · exact un.keep b o e z (fun m => noF m) (fun m => by cases m)
      · obtain ⟨e1, _⟩ := ok b _ z
        obtain ⟨e2, _⟩ := ok2 b _ (un.frzs b ob _ z)
        rw [e] at e1
        have eo := Option.some.inj e1
        rw [eo]
        exact e2
    | next => exact hq.elim
    | brk => exact hq.elim
    | cont => exact hq.elim
/-- the law's end -/
theorem law_end {k : Nat} {l : PySem.W.OpenLaw} {n : Nat} {q : Program} {loose : List Str} {XP : (Str → Option Value) → Heap → Prop} {YP : World → Heap → Prop} {d : DefRec} (hn : l.most = some n) (hn2 : n ≤ sizeLine) (hdf : d.params.defaults = []) (hr : Room k callerA)
    (F : ∀ (w : World) (mg : Str → Option Value) (fa : Addr) (h : Heap), YP w h → h.Ns mainGlobals mg → mg d.name = some (.ref fa) → ∃ (K : Fg) (sp : Sp), K.In h ∧ (∀ base : Heap, FnG l.prog w K mg base k fa sp) ∧ ∀ (H : Hp) (a : Addr) (ns : List Int), ns.length ≤ n → SqL K H a (ns.map V.int) → sp [.ref a] H (fun v _ => v = .bl true) E0) :
    PySem.W.WalkO q loose XP YP l.row.toRowW d [] (fun f vs => PySem.call f vs) := by
  refine Att.attach_callB hn hdf fun w s0 s1 mg mb fa o pm cd doc a us ns G Y ho hd hcd hmg hobj hints hlen hbits hg => ?_
  obtain ⟨K, sp, kin, F, hsp⟩ := F w mg fa _ Y G.T.g hmg
  exact law_g kin G.T.g G.T.b G.T.builtins G.T.nolimit hg hobj hints (Nat.le_trans hlen hn2) hr F fun H hS => hsp H a ns hlen hS
end Lf
set_option maxHeartbeats 0
open PySem PySem.W PySem.Calls PyProof.Rows
theorem PySem.Challenge.cw_lateforms_k26_whole_conversions_holds : PySem.Challenge.rw_lateforms_k26_whole_conversions.Holds := by
  w_on; o_law
  refine HandSHeadRun.head_any (r := OpenLaw.row PySem.Challenge.rw_lateforms_k26_whole_conversions) (q := view (OpenLaw.row PySem.Challenge.rw_lateforms_k26_whole_conversions).prog [83]) (H := Lf.hookL) (ob := Lf.obT) (M := 20000) (loose := Lf.loose) (d := HandSHeadRun.topDef (OpenLaw.row PySem.Challenge.rw_lateforms_k26_whole_conversions).prog 83) (kwd := []) Lf.ob_eq
    (by kernel_rfl) (fun s => by kernel_rfl) Lf.run (by kernel_rfl) (by kernel_rfl) (by kernel_rfl) (by rfl) (by first | assumption | decide +kernel) (by decide +kernel) ⟨rfl, rfl, rfl, rfl, rfl, by decide +kernel⟩ ?hw ?hc
  case hw => w_witness2
  case hc =>
    refine Lf.law_end (l := PySem.Challenge.rw_lateforms_k26_whole_conversions) (n := 63) (k := 13) rfl (by decide) (by kernel_rfl) ⟨rfl, by decide, by decide⟩ ?_
    intro w mg fa h Y G hmg0
    obtain ⟨K, KX, c⟩ := Y
    have T := Lf.says_tx c KX G
    have hmg : mg ("law" : PySem.Str) = some (.ref fa) := by
      have e : (HandSHeadRun.topDef (OpenLaw.row PySem.Challenge.rw_lateforms_k26_whole_conversions).prog 83).name = ("law" : PySem.Str) := by kernel_rfl
      rw [← e]
      exact hmg0
    obtain rfl : He.ga K "law" = fa := by
      have e := T.g_law.symm.trans hmg
      cases e
      rfl
    exact ⟨K, Lf.spLaw K, KX, fun base => Lf.f_law T (Lf.says_te c KX G) (Lf.says_tv c KX G) (Lf.says_tc c KX G) (Lf.says_tq c KX G), fun H a ns hl hS => ⟨ns, hl, ⟨_, _, rfl, .lst hS (Lf.dpAll_of_ints ns), rfl⟩, fun v H' _ b => Lf.dp_bl b⟩⟩
