import PyProof.Rows.All
import Wide.All
import OpenK.AllK
import Wide.FinOn
import HandS.ForMost
import HandS.Exc
import HandS.More
import HandS.Zip
import HandS.Defaults
import HandS.Wide
import HandS.WordsExc
import HandS.IsInst
import HandS.Deep
import HandS.ExcInit
import HandS.Conv
import HandS.CallSlots
import HandS.ExcOwn
import KE.KTryMore
import KE.KStateDown
import HandS.Head0
import HandS.Head1
import HandS.Head2
import HandS.HeadEnd
import HandS.HeadHook1
import HandS.HeadHook2
import HandS.HeadHook4
import PySem.Challenge.RW_clackrow_k57_whole_weights_seen_in_runs
set_option Elab.async false
set_option linter.all false
set_option maxRecDepth 100000
set_option autoImplicit false
set_option maxHeartbeats 4000000
/-! PD: a small logic over plain data. A def's slots hold frozen data (PyData), an own list, or the pool; nothing is said of addresses. -/
namespace PD
open PySem PySem.Spec PyProof.Rows L2
/-! ### data in a frozen part of the heap -/
mutual
inductive Rp (K : PySem.W.Frag) (F : Hp) : V → PyData → Prop
  | non : Rp K F .non .none
  | bl (b : Bool) : Rp K F (.bl b) (.bool b)
  | int (i : Int) : Rp K F (.int i) (.int i)
  | str (x : Str) : Rp K F (.str x) (.str x)
  | lst {a : Addr} {vs : List V} {ds : List PyData} : F a = some (.lst vs) → RpA K F vs ds → Rp K F (.ref a) (.list ds)
  | tup {a : Addr} {vs : List V} {ds : List PyData} : SqT K F a vs → RpA K F vs ds → Rp K F (.ref a) (.tuple ds)
inductive RpA (K : PySem.W.Frag) (F : Hp) : List V → List PyData → Prop
  | nil : RpA K F [] []
  | cons {v : V} {vs : List V} {d : PyData} {ds : List PyData} : Rp K F v d → RpA K F vs ds → RpA K F (v :: vs) (d :: ds)
end
theorem sqt_mono {K : PySem.W.Frag} {H H' : Hp} {a : Addr} {xs : List V} (e : Same H H') (h : SqT K H a xs) : SqT K H' a xs := by
  rcases h with (h | ⟨o, h⟩) | h
  · exact .inl (.inl (e _ _ h))
  · exact .inl (.inr ⟨o, e _ _ h⟩)
  · exact .inr h
section
variable {K : PySem.W.Frag} {F F' : Hp}
mutual
theorem Rp.mono (e : Same F F') : ∀ (d : PyData) (v : V), Rp K F v d → Rp K F' v d
  | .none, _, h => by cases h; exact .non
  | .bool b, _, h => by cases h; exact .bl b
  | .int i, _, h => by cases h; exact .int i
  | .str x, _, h => by cases h; exact .str x
  | .list ds, _, h => by
    cases h with
    | lst h1 h2 => exact .lst (e _ _ h1) (RpA.mono e ds _ h2)
  | .tuple ds, _, h => by
    cases h with
    | tup h1 h2 => exact .tup (sqt_mono e h1) (RpA.mono e ds _ h2)
  | .dict _, _, h => by cases h
theorem RpA.mono (e : Same F F') : ∀ (ds : List PyData) (vs : List V), RpA K F vs ds → RpA K F' vs ds
  | [], _, h => by cases h; exact .nil
  | d :: ds, _, h => by
    cases h with
    | cons h1 h2 => exact .cons (Rp.mono e d _ h1) (RpA.mono e ds _ h2)
end
mutual
theorem Rp.dp (e : Same F F') : ∀ (d : PyData) (v : V), Rp K F v d → Dp K F' v d
  | .none, _, h => by cases h; exact .non
  | .bool b, _, h => by cases h; exact .bl b
  | .int i, _, h => by cases h; exact .int i
  | .str x, _, h => by cases h; exact .str x
  | .list ds, _, h => by
    cases h with
    | lst h1 h2 => exact .lst (.of (e _ _ h1)) (RpA.dp e ds _ h2)
  | .tuple ds, _, h => by
    cases h with
    | tup h1 h2 => exact .tup (sqt_mono e h1) (RpA.dp e ds _ h2)
  | .dict _, _, h => by cases h
theorem RpA.dp (e : Same F F') : ∀ (ds : List PyData) (vs : List V), RpA K F vs ds → DpAll K F' vs ds
  | [], _, h => by cases h; exact .nil
  | d :: ds, _, h => by
    cases h with
    | cons h1 h2 => exact .cons (Rp.dp e d _ h1) (RpA.dp e ds _ h2)
end
theorem Rp.up {d : PyData} {v : V} (e : Same F F') (h : Rp K F v d) : Rp K F' v d := Rp.mono e d v h
theorem RpA.up {ds : List PyData} {vs : List V} (e : Same F F') (h : RpA K F vs ds) : RpA K F' vs ds := RpA.mono e ds vs h
theorem RpA.length : ∀ {ds : List PyData} {vs : List V}, RpA K F vs ds → vs.length = ds.length
  | [], _, h => by cases h; rfl
  | d :: ds, _, h => by
    cases h with
    | cons h1 h2 => exact congrArg Nat.succ (RpA.length h2)
theorem RpA.get : ∀ {ds : List PyData} {vs : List V} {i : Nat} {d : PyData}, RpA K F vs ds → ds[i]? = some d → ∃ v, vs[i]? = some v ∧ Rp K F v d
  | [], _, _, _, _, e => by simp at e
  | d :: ds, _, 0, _, h, e => by
    cases h with
    | cons h1 h2 => simp at e; subst e; exact ⟨_, rfl, h1⟩
  | d :: ds, _, i + 1, x, h, e => by
    cases h with
    | cons h1 h2 =>
      obtain ⟨v, e1, r⟩ := RpA.get (i := i) h2 (by simpa using e)
      exact ⟨v, by simpa using e1, r⟩
theorem RpA.getV {ds : List PyData} {vs : List V} {i : Nat} {v : V} (h : RpA K F vs ds) (e : vs[i]? = some v) : ∃ d, ds[i]? = some d ∧ Rp K F v d := by
  obtain ⟨hi, _⟩ := List.getElem?_eq_some_iff.mp e
  rw [h.length] at hi
  obtain ⟨w, e1, r⟩ := h.get (List.getElem?_eq_getElem hi)
  rw [e] at e1
  cases e1
  exact ⟨_, List.getElem?_eq_getElem hi, r⟩
theorem RpA.append : ∀ {ds : List PyData} {vs : List V} {es : List PyData} {ws : List V}, RpA K F vs ds → RpA K F ws es → RpA K F (vs ++ ws) (ds ++ es)
  | [], _, _, _, h, g => by cases h; exact g
  | d :: ds, _, _, _, h, g => by
    cases h with
    | cons h1 h2 => exact .cons h1 (RpA.append h2 g)
theorem RpA.take : ∀ {ds : List PyData} {vs : List V} (n : Nat), RpA K F vs ds → RpA K F (vs.take n) (ds.take n)
  | _, _, 0, _ => .nil
  | [], _, _ + 1, h => by cases h; exact .nil
  | d :: ds, _, n + 1, h => by
    cases h with
    | cons h1 h2 => exact .cons h1 (RpA.take n h2)
theorem RpA.drop : ∀ {ds : List PyData} {vs : List V} (n : Nat), RpA K F vs ds → RpA K F (vs.drop n) (ds.drop n)
  | _, _, 0, h => h
  | [], _, _ + 1, h => by cases h; exact .nil
  | d :: ds, _, n + 1, h => by
    cases h with
    | cons h1 h2 => exact RpA.drop n h2
theorem RpA.set {v : V} {d : PyData} (r : Rp K F v d) : ∀ {ds : List PyData} {vs : List V} (i : Nat), RpA K F vs ds → RpA K F (vs.set i v) (ds.set i d)
  | [], _, _, h => by cases h; exact .nil
  | _ :: _, _, 0, h => by
    cases h with
    | cons h1 h2 => exact .cons r h2
  | _ :: _, _, i + 1, h => by
    cases h with
    | cons h1 h2 => exact .cons h1 (RpA.set r i h2)
theorem RpA.reverse : ∀ {ds : List PyData} {vs : List V}, RpA K F vs ds → RpA K F vs.reverse ds.reverse
  | [], _, h => by cases h; exact .nil
  | d :: ds, _, h => by
    cases h with
    | cons h1 h2 =>
      rw [List.reverse_cons, List.reverse_cons]
      exact RpA.append (RpA.reverse h2) (.cons h1 .nil)
theorem RpA.one {vs : List V} {d : PyData} (h : RpA K F vs [d]) : ∃ v, vs = [v] ∧ Rp K F v d := by
  cases h with
  | cons h1 h2 => cases h2; exact ⟨_, rfl, h1⟩
theorem RpA.two {vs : List V} {d e : PyData} (h : RpA K F vs [d, e]) : ∃ v w, vs = [v, w] ∧ Rp K F v d ∧ Rp K F w e := by
  cases h with
  | cons h1 h2 =>
    obtain ⟨w, rfl, r⟩ := h2.one
    exact ⟨_, _, rfl, h1, r⟩
theorem Rp.int_ {v : V} {i : Int} (h : Rp K F v (.int i)) : v = .int i := by cases h; rfl
theorem Rp.bl_ {v : V} {b : Bool} (h : Rp K F v (.bool b)) : v = .bl b := by cases h; rfl
theorem Rp.str_ {v : V} {x : Str} (h : Rp K F v (.str x)) : v = .str x := by cases h; rfl
theorem Rp.non_ {v : V} (h : Rp K F v .none) : v = .non := by cases h; rfl
theorem Rp.tup_ {v : V} {ds : List PyData} (h : Rp K F v (.tuple ds)) : ∃ a vs, v = .ref a ∧ SqT K F a vs ∧ RpA K F vs ds := by
  cases h with
  | tup h1 h2 => exact ⟨_, _, rfl, h1, h2⟩
theorem Rp.lst_ {v : V} {ds : List PyData} (h : Rp K F v (.list ds)) : ∃ a vs, v = .ref a ∧ F a = some (.lst vs) ∧ RpA K F vs ds := by
  cases h with
  | lst h1 h2 => exact ⟨_, _, rfl, h1, h2⟩
end
/-! ### steps -/
def IsPool (H : Hp) (b : Addr) : Prop := ∃ x y z : Int, H b = some (.lst [.int x, .int y, .int z])
/-- from the heap H (frozen part F) to H' (F'): all but what M names stays; nothing that stood outside F is frozen -/
structure Step (M : Addr → Prop) (F H F' H' : Hp) : Prop where
  ff : Same F F'
  fh : Same F' H'
  hh : ∀ b o, H b = some o → ¬ M b → H' b = some o
  nf : ∀ b, H b ≠ none → F b = none → F' b = none
  pl : ∀ b, M b → IsPool H b → IsPool H' b
section
variable {M : Addr → Prop} {F H F' H' F'' H'' : Hp} {p : Addr} {o : HO}
theorem Step.refl (h : Same F H) : Step M F H F H := ⟨.refl _, h, fun _ _ e _ => e, fun _ _ e => e, fun _ _ e => e⟩
theorem keepN (M : Addr → Prop) {H H' : Hp} (hh : ∀ b o, H b = some o → ¬ M b → H' b = some o) (pl : ∀ b, M b → IsPool H b → IsPool H' b) {b : Addr} (hm : M b → IsPool H b) (h : H b ≠ none) : H' b ≠ none := by
  by_cases m : M b
  · obtain ⟨x, y, z, e⟩ := pl b m (hm m)
    rw [e]
    exact fun q => nomatch q
  · cases e : H b with
    | none => exact absurd e h
    | some u =>
      rw [hh b u e m]
      exact fun q => nomatch q
theorem Step.trans (mp : ∀ b, M b → IsPool H b) (a : Step M F H F' H') (b : Step M F' H' F'' H'') : Step M F H F'' H'' :=
  ⟨a.ff.trans b.ff, b.fh, fun c u e m => b.hh c u (a.hh c u e m) m, fun c h e => b.nf c (keepN M a.hh a.pl (mp c) h) (a.nf c h e), fun c m e => b.pl c m (a.pl c m e)⟩
theorem same_upd {H : Hp} {p : Addr} {o : HO} (h : H p = none) : Same H (upd H p o) := fun b x e => by
  rw [upd_ne (ne_of_none e h)]
  exact e
/-- a new object, frozen at once -/
theorem Step.new (h : Same F H) (np : H p = none) : Step M F H (upd F p o) (upd H p o) := by
  have fp : F p = none := h.free np
  refine ⟨same_upd fp, fun b x e => ?_, fun b x e _ => same_upd np b x e, fun b hb e => ?_, fun b m e => ?_⟩
  · by_cases hb : b = p
    · subst hb
      rw [upd_same] at e ⊢
      exact e
    · rw [upd_ne hb] at e ⊢
      exact h b x e
  · have hb' : b ≠ p := fun z => hb (z ▸ np)
    rw [upd_ne hb']
    exact e
  · obtain ⟨x, y, z, e⟩ := e
    exact ⟨x, y, z, same_upd np b _ e⟩
/-- a new object, not frozen -/
theorem Step.newU (h : Same F H) (np : H p = none) : Step M F H F (upd H p o) :=
  ⟨.refl _, h.trans (same_upd np), fun b x e _ => same_upd np b x e, fun b _ e => e, fun b m ⟨x, y, z, e⟩ => ⟨x, y, z, same_upd np b _ e⟩⟩
theorem Step.weak (a : Step (fun _ => False) F H F' H') : Step M F H F' H' :=
  ⟨a.ff, a.fh, fun b o e _ => a.hh b o e id, a.nf, fun b _ ⟨x, y, z, e⟩ => ⟨x, y, z, a.hh b _ e id⟩⟩
theorem Step.pool {a : Addr} (ma : M a) (q : Step (fun b => b = a) F H F' H') : Step M F H F' H' :=
  ⟨q.ff, q.fh, fun b o e m => q.hh b o e fun z => m (z ▸ ma), q.nf, fun b m e => by
    by_cases h : b = a
    · exact q.pl b h e
    · obtain ⟨x, y, z, e⟩ := e
      exact ⟨x, y, z, q.hh b _ e h⟩⟩
theorem Step.same (q : Step (fun _ => False) F H F' H') : Same H H' := fun b o e => q.hh b o e id
end
/-! ### slots -/
/-- an object with two dicts -/
structure Ob where
  (C a dx dw dc : Addr)
  (v1 v4 : V)
  (kw kc : List (Key × V))
  ss : PyData
  wt : List (Nat × PyData)
  cm : List (Nat × PyData)
  rg : PyData
inductive Sl where
  | u
  | d (x : PyData)
  | l (xs : List PyData)
  | p
  | s (xs : List V)
  | m (ds : List (Nat × PyData))
  | o (x : Ob)
  | k (v : V)
def keysD (ds : List (Nat × PyData)) : List Key := ds.map fun x => (Sum.inl (x.1 : Int) : Key)
def RpD (K : PySem.W.Frag) (F : Hp) (kvs : List (Key × V)) (ds : List (Nat × PyData)) : Prop := kvs.map (·.1) = keysD ds ∧ RpA K F (kvs.map (·.2)) (ds.map (·.2))
theorem RpD.up {K : PySem.W.Frag} {F F' : Hp} {kvs : List (Key × V)} {ds : List (Nat × PyData)} (e : Same F F') (h : RpD K F kvs ds) : RpD K F' kvs ds := ⟨h.1, h.2.up e⟩
def ObOk (K : PySem.W.Frag) (F H : Hp) (x : Ob) : Prop := H x.a = some (.ins x.C x.dx [("sightings", x.v1), ("weights", .ref x.dw), ("came", .ref x.dc), ("ring", x.v4)]) ∧ H x.dw = some (.dK x.kw) ∧ H x.dc = some (.dK x.kc) ∧ Rp K F x.v1 x.ss ∧ Rp K F x.v4 x.rg ∧ RpD K F x.kw x.wt ∧ RpD K F x.kc x.cm
def Ob.has (x : Ob) (b : Addr) : Prop := b = x.a ∨ b = x.dw ∨ b = x.dc
def SlOk (K : PySem.W.Frag) (M : Addr → Prop) (F H : Hp) : Sl → Option V → Prop
  | .u, _ => True
  | .d x, w => ∃ v, w = some v ∧ Rp K F v x
  | .l xs, w => ∃ a vs, w = some (.ref a) ∧ F a = none ∧ ¬ M a ∧ H a = some (.lst vs) ∧ RpA K F vs xs
  | .p, w => ∃ a, w = some (.ref a) ∧ M a ∧ F a = none ∧ IsPool H a
  | .s xs, w => ∃ a, w = some (.ref a) ∧ SqL K F a xs
  | .m ds, w => ∃ a kvs, w = some (.ref a) ∧ F a = none ∧ ¬ M a ∧ H a = some (.dK kvs) ∧ RpD K F kvs ds
  | .k v, w => w = some v
  | .o x, w => w = some (.ref x.a) ∧ (∀ b, x.has b → F b = none ∧ ¬ M b) ∧ x.dw ≠ x.dc ∧ ObOk K F H x
/-- what a slot owns -/
def Owns : Sl → Option V → Addr → Prop
  | .l _, w, b => w = some (.ref b)
  | .m _, w, b => w = some (.ref b)
  | .o x, _, b => x.has b
  | _, _, _ => False
theorem sql_mono {K : PySem.W.Frag} {H H' : Hp} {a : Addr} {xs : List V} (e : Same H H') (h : SqL K H a xs) : SqL K H' a xs := by
  rcases h with (h | ⟨o, h⟩) | h
  · exact .inl (.inl (e _ _ h))
  · exact .inl (.inr ⟨o, e _ _ h⟩)
  · exact .inr h
section
variable {K : PySem.W.Frag} {M : Addr → Prop} {F H F' H' : Hp} {s : Sl} {w : Option V} {b : Addr}
theorem SlOk.owned (h : SlOk K M F H s w) (ow : Owns s w b) : F b = none ∧ ¬ M b ∧ H b ≠ none := by
  cases s with
  | u => exact ow.elim
  | d x => exact ow.elim
  | p => exact ow.elim
  | s xs => exact ow.elim
  | k v => exact ow.elim
  | l xs =>
    obtain ⟨a, vs, rfl, f, m, e, r⟩ := h
    cases (show some (V.ref a) = some (V.ref b) from ow)
    exact ⟨f, m, by rw [e]; exact fun z => nomatch z⟩
  | m ds =>
    obtain ⟨a, vs, rfl, f, m, e, r⟩ := h
    cases (show some (V.ref a) = some (V.ref b) from ow)
    exact ⟨f, m, by rw [e]; exact fun z => nomatch z⟩
  | o x =>
    obtain ⟨_, hb, _, e1, e2, e3, _⟩ := h
    obtain ⟨f, m⟩ := hb b ow
    refine ⟨f, m, ?_⟩
    rcases ow with rfl | rfl | rfl
    · rw [e1]; exact fun z => nomatch z
    · rw [e2]; exact fun z => nomatch z
    · rw [e3]; exact fun z => nomatch z
theorem SlOk.keep (h : SlOk K M F H s w) (ff : Same F F') (c1 : ∀ b, Owns s w b ∨ M b → F b = none → H b ≠ none → F' b = none) (c2 : ∀ b o, Owns s w b → H b = some o → H' b = some o) (c3 : ∀ b, M b → IsPool H b → IsPool H' b) : SlOk K M F' H' s w := by
  have own := fun b => h.owned (b := b)
  cases s with
  | u => trivial
  | d x =>
    obtain ⟨v, e, r⟩ := h
    exact ⟨v, e, r.up ff⟩
  | s xs =>
    obtain ⟨a, e, q⟩ := h
    exact ⟨a, e, sql_mono ff q⟩
  | k v => exact h
  | l xs =>
    obtain ⟨a, vs, rfl, f, m, e, r⟩ := h
    obtain ⟨o1, o2, o3⟩ := own a rfl
    exact ⟨a, vs, rfl, c1 a (.inl rfl) f o3, m, c2 a _ rfl e, r.up ff⟩
  | m ds =>
    obtain ⟨a, vs, rfl, f, m, e, r⟩ := h
    obtain ⟨o1, o2, o3⟩ := own a rfl
    exact ⟨a, vs, rfl, c1 a (.inl rfl) f o3, m, c2 a _ rfl e, r.up ff⟩
  | p =>
    obtain ⟨a, e, m, f, q⟩ := h
    refine ⟨a, e, m, c1 a (.inr m) f ?_, c3 a m q⟩
    obtain ⟨x, y, z, q⟩ := q
    rw [q]
    exact fun q => nomatch q
  | o x =>
    obtain ⟨e, hb, hne, e1, e2, e3, r1, r4, rw_, rc⟩ := h
    refine ⟨e, fun b hx => ?_, hne, c2 _ _ (.inl rfl) e1, c2 _ _ (.inr (.inl rfl)) e2, c2 _ _ (.inr (.inr rfl)) e3, r1.up ff, r4.up ff, rw_.up ff, rc.up ff⟩
    obtain ⟨o1, o2, o3⟩ := own b hx
    exact ⟨c1 b (.inl hx) o1 o3, o2⟩
end
structure SlsOk (K : PySem.W.Frag) (M : Addr → Prop) (F H : Hp) (ρ : List Sl) (σ : L2.St) : Prop where
  len : σ.length = ρ.length
  ok : ∀ (i : Nat) (s : Sl) (w : Option V), ρ[i]? = some s → σ[i]? = some w → SlOk K M F H s w
  mp : ∀ b, M b → IsPool H b
section
variable {K : PySem.W.Frag} {M : Addr → Prop} {F H F' H' : Hp} {ρ : List Sl} {σ : L2.St}
theorem SlOk.step {s : Sl} {w : Option V} (h : SlOk K M F H s w) (st : Step M F H F' H') : SlOk K M F' H' s w := h.keep st.ff (fun b _ f n => st.nf b n f) (fun b o ow e => st.hh b o e (h.owned ow).2.1) st.pl
theorem SlsOk.step (h : SlsOk K M F H ρ σ) (st : Step M F H F' H') : SlsOk K M F' H' ρ σ := ⟨h.len, fun i s w e1 e2 => (h.ok i s w e1 e2).step st, fun b m => st.pl b m (h.mp b m)⟩
theorem SlsOk.at_ (h : SlsOk K M F H ρ σ) {i : Nat} {s : Sl} (e : ρ[i]? = some s) : ∃ w, σ[i]? = some w ∧ SlOk K M F H s w := by
  obtain ⟨hi, _⟩ := List.getElem?_eq_some_iff.mp e
  have hi2 : i < σ.length := h.len ▸ hi
  exact ⟨_, List.getElem?_eq_getElem hi2, h.ok i s _ e (List.getElem?_eq_getElem hi2)⟩
theorem SlsOk.set (h : SlsOk K M F H ρ σ) (i : Nat) {s : Sl} {w : Option V} (r : SlOk K M F H s w) : SlsOk K M F H (ρ.set i s) (σ.set i w) := by
  refine ⟨by rw [List.length_set, List.length_set, h.len], fun j t u e1 e2 => ?_, h.mp⟩
  by_cases hj : i = j
  · subst hj
    obtain ⟨h1, _⟩ := List.getElem?_eq_some_iff.mp e1
    obtain ⟨h2, _⟩ := List.getElem?_eq_some_iff.mp e2
    rw [List.getElem?_set_self (by simpa using h1)] at e1
    rw [List.getElem?_set_self (by simpa using h2)] at e2
    cases e1
    cases e2
    exact r
  · rw [List.getElem?_set_ne hj] at e1 e2
    exact h.ok j t u e1 e2
theorem SlsOk.var (h : SlsOk K M F H ρ σ) {i : Nat} {d : PyData} (e : ρ[i]? = some (.d d)) : ∃ v, σ[i]? = some (some v) ∧ Rp K F v d := by
  obtain ⟨w, e1, v, rfl, r⟩ := h.at_ e
  exact ⟨v, e1, r⟩
theorem SlsOk.own (h : SlsOk K M F H ρ σ) {i : Nat} {xs : List PyData} (e : ρ[i]? = some (.l xs)) : ∃ a vs, σ[i]? = some (some (.ref a)) ∧ F a = none ∧ ¬ M a ∧ H a = some (.lst vs) ∧ RpA K F vs xs := by
  obtain ⟨w, e1, a, vs, rfl, r⟩ := h.at_ e
  exact ⟨a, vs, e1, r⟩
end
/-! ### expressions -/
section
variable (K : PySem.W.Frag) (M : Addr → Prop)
def EvN (te : TE) (ρ : List Sl) (P : PyData → Prop) : Prop :=
  ∀ (F H : Hp) (σ : L2.St), Same F H → SlsOk K M F H ρ σ → ∀ Q : VK, (∀ d v F' H', P d → Step M F H F' H' → Rp K F' v d → Q v H') → te σ H Q
abbrev Ev (te : TE) (ρ : List Sl) (d : PyData) : Prop := EvN K M te ρ (fun x => x = d)
def AN (ta : TA) (ρ : List Sl) (P : List PyData → Prop) : Prop :=
  ∀ (F H : Hp) (σ : L2.St), Same F H → SlsOk K M F H ρ σ → ∀ Q : List V → Hp → Prop, (∀ ds vs F' H', P ds → Step M F H F' H' → RpA K F' vs ds → Q vs H') → ta σ H Q
abbrev Ag (ta : TA) (ρ : List Sl) (ds : List PyData) : Prop := AN K M ta ρ (fun x => x = ds)
def TN (tt : TT) (ρ : List Sl) (P : Bool → Prop) : Prop :=
  ∀ (F H : Hp) (σ : L2.St), Same F H → SlsOk K M F H ρ σ → ∀ Q : Bool → Hp → Prop, (∀ b F' H', P b → Step M F H F' H' → Q b H') → tt σ H Q
abbrev Te (tt : TT) (ρ : List Sl) (b : Bool) : Prop := TN K M tt ρ (fun x => x = b)
/-- a new list -/
def ELN (te : TE) (ρ : List Sl) (P : List PyData → Prop) : Prop :=
  ∀ (F H : Hp) (σ : L2.St), Same F H → SlsOk K M F H ρ σ → ∀ Q : VK, (∀ xs a vs F' H', P xs → Step M F H F' H' → F' a = none → H a = none → H' a = some (.lst vs) → RpA K F' vs xs → Q (.ref a) H') → te σ H Q
abbrev EL (te : TE) (ρ : List Sl) (xs : List PyData) : Prop := ELN K M te ρ (fun x => x = xs)
end
def OpD (K : PySem.W.Frag) (r : R2) (a b d : PyData) : Prop :=
  ∀ (M : Addr → Prop) (F H : Hp) (x y : V) (Q : VK), Same F H → Rp K F x a → Rp K F y b → (∀ v F' H', Step M F H F' H' → Rp K F' v d → Q v H') → r x y H Q
/-- an operation that makes a new list -/
def OpL (K : PySem.W.Frag) (r : R2) (a b : PyData) (xs : List PyData) : Prop :=
  ∀ (M : Addr → Prop) (F H : Hp) (x y : V) (Q : VK), Same F H → Rp K F x a → Rp K F y b → (∀ p vs, H p = none → RpA K F vs xs → Q (.ref p) (upd H p (.lst vs))) → r x y H Q
def CbD (K : PySem.W.Frag) (r : List V → Hp → VK → Prop) (ds : List PyData) (d : PyData) : Prop :=
  ∀ (M : Addr → Prop) (F H : Hp) (vs : List V) (Q : VK), Same F H → RpA K F vs ds → (∀ v F' H', Step M F H F' H' → Rp K F' v d → Q v H') → r vs H Q
def SpD (K : PySem.W.Frag) (sp : Sp) (dvs : List V) (ds : List PyData) (d : PyData) : Prop :=
  ∀ (M : Addr → Prop) (F H : Hp) (vs : List V) (Q : VK) (W : XK), Same F H → RpA K F vs ds → (∀ v F' H', Step M F H F' H' → Rp K F' v d → Q v H') → sp (vs ++ dvs) H Q W
section
variable {K : PySem.W.Frag} {M : Addr → Prop} {ρ : List Sl} {te ta tb : TE} {tt tu : TT} {tA : TA} {a b d : PyData} {P A B : PyData → Prop}
theorem EvN.imp {P' : PyData → Prop} (h : EvN K M te ρ P) (i : ∀ d, P d → P' d) : EvN K M te ρ P' := fun F H σ s o Q q => h F H σ s o Q fun d v F' H' p => q d v F' H' (i d p)
theorem Ev.eq {d' : PyData} (h : Ev K M te ρ d) (e : d = d') : Ev K M te ρ d' := e ▸ h
theorem ev_var {i : Nat} (e : ρ[i]? = some (.d d)) : Ev K M (tVar i) ρ d := fun F H σ s o Q q => by
  obtain ⟨v, e1, r⟩ := o.var e
  exact ⟨v, e1, q d v F H rfl (.refl s) r⟩
theorem ev_c {v : V} (r : ∀ F, Rp K F v d) : Ev K M (tC v) ρ d := fun F H σ s o Q q => q d v F H rfl (.refl s) (r F)
theorem ev_int {i : Int} : Ev K M (tC (.int i)) ρ (.int i) := ev_c fun _ => .int i
theorem ev_bl {c : Bool} : Ev K M (tC (.bl c)) ρ (.bool c) := ev_c fun _ => .bl c
theorem ev_str {x : Str} : Ev K M (tC (.str x)) ρ (.str x) := ev_c fun _ => .str x
theorem ev_non : Ev K M (tC .non) ρ .none := ev_c fun _ => .non
theorem evN_op {r : R2} (ha : EvN K M ta ρ A) (hb : EvN K M tb ρ B) (ho : ∀ a b, A a → B b → ∃ d, P d ∧ OpD K r a b d) : EvN K M (tOp r ta tb) ρ P := fun F H σ s o Q q =>
  ha F H σ s o _ fun a x F1 H1 pa s1 r1 => hb F1 H1 σ s1.fh (o.step s1) _ fun b y F2 H2 pb s2 r2 => by
    obtain ⟨d, pd, od⟩ := ho a b pa pb
    exact od M F2 H2 x y Q s2.fh (r1.up s2.ff) r2 fun v F3 H3 s3 r3 => q d v F3 H3 pd (((s1.trans o.mp s2)).trans o.mp s3) r3
theorem ev_op {r : R2} (ha : Ev K M ta ρ a) (hb : Ev K M tb ρ b) (ho : OpD K r a b d) : Ev K M (tOp r ta tb) ρ d := evN_op ha hb fun _ _ e1 e2 => ⟨d, rfl, by rw [e1, e2]; exact ho⟩
theorem el_op {r : R2} {xs : List PyData} (ha : Ev K M ta ρ a) (hb : Ev K M tb ρ b) (ho : OpL K r a b xs) : EL K M (tOp r ta tb) ρ xs := fun F H σ s o Q q =>
  ha F H σ s o _ fun a' x F1 H1 pa s1 r1 => hb F1 H1 σ s1.fh (o.step s1) _ fun b' y F2 H2 pb s2 r2 => by
    subst pa pb
    refine ho M F2 H2 x y Q s2.fh (r1.up s2.ff) r2 fun p vs np rv => ?_
    have st := s1.trans o.mp s2
    have n0 : H p = none := by
      cases e : H p with
      | none => rfl
      | some u =>
        exact absurd np (keepN M st.hh st.pl (o.mp p) (by rw [e]; exact fun z => nomatch z))
    exact q xs p vs F2 _ rfl (st.trans o.mp (.newU s2.fh np)) (s2.fh.free np) n0 upd_same rv
theorem evN_un {r : V → Hp → VK → Prop} (ha : EvN K M ta ρ A) (ho : ∀ a, A a → ∃ d, P d ∧ ∀ (M : Addr → Prop) (F H : Hp) (x : V) (Q : VK), Same F H → Rp K F x a → (∀ v F' H', Step M F H F' H' → Rp K F' v d → Q v H') → r x H Q) : EvN K M (tUn r ta) ρ P := fun F H σ s o Q q =>
  ha F H σ s o _ fun a x F1 H1 pa s1 r1 => by
    obtain ⟨d, pd, od⟩ := ho a pa
    exact od M F1 H1 x Q s1.fh r1 fun v F3 H3 s3 r3 => q d v F3 H3 pd (s1.trans o.mp s3) r3
theorem ev_neg {i : Int} (ha : Ev K M ta ρ (.int i)) : Ev K M (tUn (rU fun i => .int (-i)) ta) ρ (.int (-i)) := evN_un ha fun a e => ⟨_, rfl, fun M F H x Q s r q => by
  subst e
  rw [r.int_]
  exact ⟨i, rfl, q _ F H (.refl s) (.int _)⟩⟩
/-! arguments -/
theorem ag_nil : Ag K M tNil ρ [] := fun F H σ s o Q q => q [] [] F H rfl (.refl s) .nil
theorem aN_cons {PA PR : List PyData → Prop} (ha : EvN K M te ρ A) (hr : AN K M tA ρ PR) (hp : ∀ d ds, A d → PR ds → PA (d :: ds)) : AN K M (tCons te tA) ρ PA := fun F H σ s o Q q =>
  ha F H σ s o _ fun a x F1 H1 pa s1 r1 => hr F1 H1 σ s1.fh (o.step s1) _ fun ds vs F2 H2 pb s2 r2 => q (a :: ds) (x :: vs) F2 H2 (hp a ds pa pb) (s1.trans o.mp s2) (.cons (r1.up s2.ff) r2)
theorem ag_cons {ds : List PyData} (ha : Ev K M te ρ d) (hr : Ag K M tA ρ ds) : Ag K M (tCons te tA) ρ (d :: ds) := aN_cons ha hr fun _ _ e1 e2 => by rw [e1, e2]
theorem evN_cb {r : List V → Hp → VK → Prop} {PA : List PyData → Prop} (ha : AN K M tA ρ PA) (ho : ∀ ds, PA ds → ∃ d, P d ∧ CbD K r ds d) : EvN K M (tCB r tA) ρ P := fun F H σ s o Q q =>
  ha F H σ s o _ fun ds vs F1 H1 pa s1 r1 => by
    obtain ⟨d, pd, od⟩ := ho ds pa
    exact od M F1 H1 vs Q s1.fh r1 fun v F3 H3 s3 r3 => q d v F3 H3 pd (s1.trans o.mp s3) r3
theorem ev_cb {r : List V → Hp → VK → Prop} {ds : List PyData} (ha : Ag K M tA ρ ds) (ho : CbD K r ds d) : Ev K M (tCB r tA) ρ d := evN_cb ha fun _ e => ⟨d, rfl, by rw [e]; exact ho⟩
theorem evN_call {sp : Sp} {dvs : List V} {W : XK} {PA : List PyData → Prop} (ha : AN K M tA ρ PA) (ho : ∀ ds, PA ds → ∃ d, P d ∧ SpD K sp dvs ds d) : EvN K M (tCall sp dvs W tA) ρ P := fun F H σ s o Q q =>
  ha F H σ s o _ fun ds vs F1 H1 pa s1 r1 => by
    obtain ⟨d, pd, od⟩ := ho ds pa
    exact od M F1 H1 vs Q W s1.fh r1 fun v F3 H3 s3 r3 => q d v F3 H3 pd (s1.trans o.mp s3) r3
theorem ev_call {sp : Sp} {dvs : List V} {W : XK} {ds : List PyData} (ha : Ag K M tA ρ ds) (ho : SpD K sp dvs ds d) : Ev K M (tCall sp dvs W tA) ρ d := evN_call ha fun _ e => ⟨d, rfl, by rw [e]; exact ho⟩
theorem evN_tup {PA : List PyData → Prop} (ha : AN K M tA ρ PA) (hp : ∀ ds, PA ds → ds.length ≤ 1000 ∧ P (.tuple ds)) : EvN K M (tTup tA) ρ P := fun F H σ s o Q q =>
  ha F H σ s o _ fun ds vs F1 H1 pa s1 r1 => by
    obtain ⟨hl, hd⟩ := hp ds pa
    refine ⟨Nat.le_of_lt (small1000 (by rw [r1.length]; exact hl)), fun p np => ?_⟩
    have st : Step M F1 H1 (upd F1 p (.tup vs)) (upd H1 p (.tup vs)) := .new s1.fh np
    exact q _ _ _ _ hd (s1.trans o.mp st) (.tup (.inl (.inl upd_same)) (r1.up st.ff))
theorem ev_tup {ds : List PyData} (ha : Ag K M tA ρ ds) (hl : ds.length ≤ 1000 := by simp) : Ev K M (tTup tA) ρ (.tuple ds) := evN_tup ha fun _ e => by rw [e]; exact ⟨hl, rfl⟩
theorem elN_lst {PA : List PyData → Prop} (ha : AN K M tA ρ PA) (hl : ∀ ds, PA ds → ds.length ≤ 1000) : ELN K M (tLst tA) ρ PA := fun F H σ s o Q q =>
  ha F H σ s o _ fun ds vs F1 H1 pa s1 r1 => by
    refine ⟨Nat.le_of_lt (small1000 (by rw [r1.length]; exact hl ds pa)), fun p np => ?_⟩
    have n0 : H p = none := by
      cases e : H p with
      | none => rfl
      | some u => exact absurd np (keepN M s1.hh s1.pl (o.mp p) (by rw [e]; exact fun z => nomatch z))
    exact q ds p vs F1 _ pa (s1.trans o.mp (.newU s1.fh np)) (s1.fh.free np) n0 upd_same r1
theorem el_lst {ds : List PyData} (ha : Ag K M tA ρ ds) (hl : ds.length ≤ 1000 := by simp) : EL K M (tLst tA) ρ ds := elN_lst ha fun _ e => by rw [e]; exact hl
/-- a new list, frozen -/
theorem ELN.ev {PA : List PyData → Prop} (h : ELN K M te ρ PA) (hp : ∀ xs, PA xs → P (.list xs)) : EvN K M te ρ P := fun F H σ s o Q q =>
  h F H σ s o _ fun xs a vs F' H' px st fa ha ha' r => by
    have e : Same F' (upd F' a (.lst vs)) := same_upd fa
    refine q (.list xs) (.ref a) (upd F' a (.lst vs)) H' (hp xs px) ⟨st.ff.trans e, fun b x z => ?_, st.hh, fun b hb z => ?_, st.pl⟩ (.lst upd_same (r.up e))
    · by_cases hb : b = a
      · subst hb
        rw [upd_same] at z
        rw [ha', z]
      · rw [upd_ne hb] at z
        exact st.fh b x z
    · have hb' : b ≠ a := fun y => hb (y ▸ ha)
      rw [upd_ne hb']
      exact st.nf b hb z
theorem EL.ev {xs : List PyData} (h : EL K M te ρ xs) : Ev K M te ρ (.list xs) := ELN.ev h fun _ e => by rw [e]
/-! truth -/
theorem ev_and {p q : Bool} (ha : Ev K M ta ρ (.bool p)) (hb : p = true → Ev K M tb ρ (.bool q)) : Ev K M (tAndV ta tb) ρ (.bool (p && q)) := fun F H σ s o Q k =>
  ha F H σ s o _ fun a x F1 H1 pa s1 r1 => by
    subst pa
    rw [r1.bl_]
    refine ⟨p, rfl, ?_⟩
    cases p with
    | true =>
      refine iteT (hb rfl F1 H1 σ s1.fh (o.step s1) _ fun b y F2 H2 pb s2 r2 => ?_)
      subst pb
      exact k _ y F2 H2 rfl (s1.trans o.mp s2) r2
    | false => exact iteF (k _ _ F1 H1 rfl s1 (.bl false))
theorem ev_or {p q : Bool} (ha : Ev K M ta ρ (.bool p)) (hb : p = false → Ev K M tb ρ (.bool q)) : Ev K M (tOrV ta tb) ρ (.bool (p || q)) := fun F H σ s o Q k =>
  ha F H σ s o _ fun a x F1 H1 pa s1 r1 => by
    subst pa
    rw [r1.bl_]
    refine ⟨p, rfl, ?_⟩
    cases p with
    | false =>
      refine iteF (hb rfl F1 H1 σ s1.fh (o.step s1) _ fun b y F2 H2 pb s2 r2 => ?_)
      subst pb
      exact k _ y F2 H2 rfl (s1.trans o.mp s2) r2
    | true => exact iteT (k _ _ F1 H1 rfl s1 (.bl true))
theorem ev_not {p : Bool} (ha : Ev K M ta ρ (.bool p)) : Ev K M (tNotV ta) ρ (.bool (!p)) := fun F H σ s o Q k =>
  ha F H σ s o _ fun a x F1 H1 pa s1 r1 => by
    subst pa
    rw [r1.bl_]
    exact ⟨p, rfl, k _ _ F1 H1 rfl s1 (.bl _)⟩
theorem tN_test {PB : Bool → Prop} (h : EvN K M te ρ P) (hp : ∀ d, P d → ∃ b, d = .bool b ∧ PB b) : TN K M (tTest te) ρ PB := fun F H σ s o Q q =>
  h F H σ s o _ fun d x F1 H1 pd s1 r1 => by
    obtain ⟨b, rfl, hb⟩ := hp d pd
    rw [r1.bl_]
    exact ⟨b, rfl, q b F1 H1 hb s1⟩
theorem te_test {c : Bool} (h : Ev K M te ρ (.bool c)) : Te K M (tTest te) ρ c := tN_test h fun _ e => ⟨c, e, rfl⟩
theorem te_val {c : Bool} (h : Ev K M te ρ (.bool c)) : Te K M (tB te) ρ c := fun F H σ s o Q q =>
  h F H σ s o _ fun d x F1 H1 pd s1 r1 => by
    subst pd
    rw [r1.bl_]
    exact ⟨c, rfl, q c F1 H1 rfl s1⟩
theorem te_not {c : Bool} (h : Te K M tt ρ c) : Te K M (tNot tt) ρ (!c) := fun F H σ s o Q q =>
  h F H σ s o _ fun b F1 H1 pb s1 => by
    subst pb
    exact q _ F1 H1 rfl s1
theorem te_and {c e : Bool} (h : Te K M tt ρ c) (g : c = true → Te K M tu ρ e) : Te K M (tAnd tt tu) ρ (c && e) := fun F H σ s o Q q =>
  h F H σ s o _ fun b F1 H1 pb s1 => by
    subst pb
    cases b with
    | true =>
      refine iteT (g rfl F1 H1 σ s1.fh (o.step s1) _ fun b F2 H2 pb s2 => ?_)
      subst pb
      exact q _ F2 H2 rfl (s1.trans o.mp s2)
    | false => exact iteF (q _ F1 H1 rfl s1)
theorem te_or {c e : Bool} (h : Te K M tt ρ c) (g : c = false → Te K M tu ρ e) : Te K M (tOr tt tu) ρ (c || e) := fun F H σ s o Q q =>
  h F H σ s o _ fun b F1 H1 pb s1 => by
    subst pb
    cases b with
    | false =>
      refine iteF (g rfl F1 H1 σ s1.fh (o.step s1) _ fun b F2 H2 pb s2 => ?_)
      subst pb
      exact q _ F2 H2 rfl (s1.trans o.mp s2)
    | true => exact iteT (q _ F1 H1 rfl s1)
theorem Te.eq {c c' : Bool} (h : Te K M tt ρ c) (e : c = c') : Te K M tt ρ c' := e ▸ h
end
end PD
/-! PD2: statements, loops, own lists, comprehensions, defs -/
namespace PD
open PySem PySem.Spec PyProof.Rows L2
inductive Out where
  | nx (ρ : List Sl) | rt (d : PyData) | bk (ρ : List Sl) | ct (ρ : List Sl) | ex (C : Addr)
structure SSt (K : PySem.W.Frag) (M : Addr → Prop) (H0 F0 F H : Hp) (ρ : List Sl) (σ : L2.St) : Prop where
  sl : SlsOk K M F H ρ σ
  st : Step M F0 H0 F H
  m0 : ∀ b, M b → IsPool H0 b
  own : ∀ (i : Nat) (s : Sl) (w : Option V) (b : Addr), ρ[i]? = some s → σ[i]? = some w → Owns s w b → H0 b = none
  dis : ∀ (i j : Nat) (s t : Sl) (v w : Option V) (b : Addr), ρ[i]? = some s → σ[i]? = some v → ρ[j]? = some t → σ[j]? = some w → Owns s v b → Owns t w b → i = j
section
variable {K : PySem.W.Frag} {M : Addr → Prop} {H0 F0 F H F' H' : Hp} {ρ : List Sl} {σ : L2.St}
theorem SSt.step (h : SSt K M H0 F0 F H ρ σ) (s : Step M F H F' H') : SSt K M H0 F0 F' H' ρ σ :=
  ⟨h.sl.step s, h.st.trans h.m0 s, h.m0, h.own, h.dis⟩
theorem set_inv {α : Type} {l : List α} {i j : Nat} {x y : α} (e : (l.set i x)[j]? = some y) : (i = j ∧ y = x) ∨ (i ≠ j ∧ l[j]? = some y) := by
  by_cases hj : i = j
  · subst hj
    obtain ⟨h1, _⟩ := List.getElem?_eq_some_iff.mp e
    rw [List.getElem?_set_self (by simpa using h1)] at e
    exact .inl ⟨rfl, (Option.some.inj e).symm⟩
  · rw [List.getElem?_set_ne hj] at e
    exact .inr ⟨hj, e⟩
/-- a slot gets another thing -/
theorem SSt.setG (h : SSt K M H0 F0 F H ρ σ) (i : Nat) {s : Sl} {w : Option V} (ok : SlOk K M F H s w) (h0 : ∀ b, Owns s w b → H0 b = none) (nw : ∀ (j : Nat) (t : Sl) (v : Option V) (b : Addr), i ≠ j → ρ[j]? = some t → σ[j]? = some v → Owns t v b → Owns s w b → False) :
    SSt K M H0 F0 F H (ρ.set i s) (σ.set i w) := by
  refine ⟨h.sl.set i ok, h.st, h.m0, fun j t v b e1 e2 ow => ?_, fun j k t u v x b e1 e2 e3 e4 o1 o2 => ?_⟩
  · rcases set_inv e1 with ⟨z, y⟩ | ⟨n, y⟩ <;> rcases set_inv e2 with ⟨z', y'⟩ | ⟨n', y'⟩
    · subst y; subst y'
      exact h0 b ow
    · exact absurd z n'
    · exact absurd z' n
    · exact h.own j t v b y y' ow
  · rcases set_inv e1 with ⟨z1, y1⟩ | ⟨n1, y1⟩ <;> rcases set_inv e2 with ⟨z2, y2⟩ | ⟨n2, y2⟩
    · rcases set_inv e3 with ⟨z3, y3⟩ | ⟨n3, y3⟩ <;> rcases set_inv e4 with ⟨z4, y4⟩ | ⟨n4, y4⟩
      · rw [← z1, ← z3]
      · exact absurd z3 n4
      · exact absurd z4 n3
      · subst y1; subst y2
        exact (nw k u x b n3 y3 y4 o2 o1).elim
    · exact absurd z1 n2
    · exact absurd z2 n1
    · rcases set_inv e3 with ⟨z3, y3⟩ | ⟨n3, y3⟩ <;> rcases set_inv e4 with ⟨z4, y4⟩ | ⟨n4, y4⟩
      · subst y3; subst y4
        exact (nw j t v b n1 y1 y2 o1 o2).elim
      · exact absurd z3 n4
      · exact absurd z4 n3
      · exact h.dis j k t u v x b y1 y2 y3 y4 o1 o2
theorem SSt.setD (h : SSt K M H0 F0 F H ρ σ) (i : Nat) {d : PyData} {v : V} (r : Rp K F v d) : SSt K M H0 F0 F H (ρ.set i (.d d)) (σ.set i (some v)) := h.setG i (s := .d d) ⟨v, rfl, r⟩ (fun _ ow => ow.elim) fun _ _ _ _ _ _ _ _ ow => ow.elim
theorem SSt.setU (h : SSt K M H0 F0 F H ρ σ) (i : Nat) (w : Option V) : SSt K M H0 F0 F H (ρ.set i .u) (σ.set i w) := h.setG i (s := .u) trivial (fun _ ow => ow.elim) fun _ _ _ _ _ _ _ _ ow => ow.elim
/-- a slot forgotten -/
theorem SSt.forget (h : SSt K M H0 F0 F H ρ σ) (i : Nat) : SSt K M H0 F0 F H (ρ.set i .u) σ := by
  have g : ∀ {j : Nat} {s : Sl} {w : Option V} {b : Addr}, (ρ.set i .u)[j]? = some s → Owns s w b → ρ[j]? = some s := fun {j s w b} e ow => by
    rcases set_inv e with ⟨_, z⟩ | ⟨_, e⟩
    · subst z; exact ow.elim
    · exact e
  refine ⟨⟨by rw [List.length_set]; exact h.sl.len, fun j s w e1 e2 => ?_, h.sl.mp⟩, h.st, h.m0, fun j s w b e1 e2 ow => h.own j s w b (g e1 ow) e2 ow, fun j k s t v w b e1 e2 e3 e4 o1 o2 => h.dis j k s t v w b (g e1 o1) e2 (g e3 o2) e4 o1 o2⟩
  rcases set_inv e1 with ⟨_, z⟩ | ⟨n, e1⟩
  · subst z
    trivial
  · exact h.sl.ok j s w e1 e2
/-- an own list takes a slot -/
theorem SSt.setL (h : SSt K M H0 F0 F H ρ σ) (i : Nat) {xs : List PyData} {a : Addr} {vs : List V} (fa : F a = none) (ma : ¬ M a) (ha : H a = some (.lst vs)) (r : RpA K F vs xs) (h0 : H0 a = none)
    (nw : ∀ (j : Nat) (t : Sl) (v : Option V), i ≠ j → ρ[j]? = some t → σ[j]? = some v → ¬ Owns t v a) : SSt K M H0 F0 F H (ρ.set i (.l xs)) (σ.set i (some (.ref a))) :=
  h.setG i (s := .l xs) ⟨a, vs, rfl, fa, ma, ha, r⟩ (fun b ow => by cases ow; exact h0) fun j t v b n e1 e2 o1 o2 => by cases o2; exact nw j t v n e1 e2 o1
/-- what a slot owns changes -/
theorem SSt.mut (h : SSt K M H0 F0 F H ρ σ) {i : Nat} {s s' : Sl} {w : Option V} (e1 : ρ[i]? = some s) (e2 : σ[i]? = some w) (st : Step (Owns s w) F H F' H') (ok : SlOk K M F' H' s' w) (sub : ∀ b, Owns s' w b → Owns s w b) : SSt K M H0 F0 F' H' (ρ.set i s') σ := by
  have oks := h.sl.ok i s w e1 e2
  have np : ∀ b, M b → IsPool H b → IsPool H' b := fun b m ⟨x, y, z, e⟩ => ⟨x, y, z, st.hh b _ e fun ow => (oks.owned ow).2.1 m⟩
  have back : ∀ {j : Nat} {t : Sl} {v : Option V} {b : Addr}, (ρ.set i s')[j]? = some t → σ[j]? = some v → Owns t v b → ∃ t', ρ[j]? = some t' ∧ Owns t' v b := fun {j t v b} q1 q2 ow => by
    rcases set_inv q1 with ⟨z, y⟩ | ⟨n, y⟩
    · subst z
      subst y
      rw [e2] at q2
      cases q2
      exact ⟨s, e1, sub b ow⟩
    · exact ⟨t, y, ow⟩
  refine ⟨⟨by rw [List.length_set]; exact h.sl.len, fun j t v q1 q2 => ?_, fun b m => np b m (h.sl.mp b m)⟩, ⟨h.st.ff.trans st.ff, st.fh, fun b o e m => ?_, fun b hb e => ?_, fun b m e => np b m (h.st.pl b m e)⟩, h.m0, fun j t v b q1 q2 ow => ?_, fun j k t u v x b q1 q2 q3 q4 o1 o2 => ?_⟩
  · rcases set_inv q1 with ⟨z, y⟩ | ⟨n, y⟩
    · subst z
      subst y
      rw [e2] at q2
      cases q2
      exact ok
    · have okj := h.sl.ok j t v y q2
      exact okj.keep st.ff (fun b _ f hn => st.nf b hn f) (fun b o ow e => st.hh b o e fun ow2 => n (h.dis i j s t w v b e1 e2 y q2 ow2 ow)) np
  · refine st.hh b o (h.st.hh b o e m) fun ow => ?_
    have := h.own i s w b e1 e2 ow
    rw [e] at this
    cases this
  · exact st.nf b (keepN M h.st.hh h.st.pl (h.m0 b) hb) (h.st.nf b hb e)
  · obtain ⟨t', z1, z2⟩ := back q1 q2 ow
    exact h.own j t' v b z1 q2 z2
  · obtain ⟨t', z1, z2⟩ := back q1 q2 o1
    obtain ⟨u', z3, z4⟩ := back q3 q4 o2
    exact h.dis j k t' u' v x b z1 q2 z3 q4 z2 z4
theorem Step.updO {N : Addr → Prop} {a : Addr} {o : HO} (s : Same F H) (na : N a) (fa : F a = none) (nl : ∀ b, N b → ¬ IsPool H b) : Step N F H F (upd H a o) := by
  have ne : ∀ b, b ≠ a → upd H a o b = H b := fun b hb => upd_ne hb
  refine ⟨.refl _, fun b x e => ?_, fun b x e m => ?_, fun b _ e => e, fun b m e => (nl b m e).elim⟩
  · rw [ne b fun z => by rw [z, fa] at e; cases e]
    exact s b x e
  · rw [ne b fun z => m (z ▸ na)]
    exact e
/-- the own list in slot i has other items -/
theorem SSt.putL (h : SSt K M H0 F0 F H ρ σ) {i : Nat} {xs : List PyData} {a : Addr} (e1 : ρ[i]? = some (.l xs)) (e2 : σ[i]? = some (some (.ref a))) (fa : F a = none) (ma : ¬ M a) {ys : List PyData} {ws : List V} (r : RpA K F ws ys) :
    SSt K M H0 F0 F (upd H a (.lst ws)) (ρ.set i (.l ys)) σ := by
  have ne : ∀ b, b ≠ a → upd H a (.lst ws) b = H b := fun b hb => upd_ne hb
  have oks := h.sl.ok i _ _ e1 e2
  have np : ∀ b, M b → IsPool H b → IsPool (upd H a (.lst ws)) b := fun b m ⟨x, y, z, e⟩ => ⟨x, y, z, by rw [upd_ne (fun q : b = a => ma (q ▸ m))]; exact e⟩
  have back : ∀ {j : Nat} {t : Sl} {v : Option V} {b : Addr}, (ρ.set i (.l ys))[j]? = some t → σ[j]? = some v → Owns t v b → ∃ t', ρ[j]? = some t' ∧ Owns t' v b := fun {j t v b} q1 q2 ow => by
    rcases set_inv q1 with ⟨z, y⟩ | ⟨n, y⟩
    · subst z
      subst y
      exact ⟨_, e1, ow⟩
    · exact ⟨t, y, ow⟩
  have h0 := h.own i _ _ a e1 e2 rfl
  refine ⟨⟨by rw [List.length_set]; exact h.sl.len, fun j t v q1 q2 => ?_, fun b m => np b m (h.sl.mp b m)⟩, ⟨h.st.ff, fun b o e => ?_, fun b o e m => ?_, h.st.nf, fun b m e => np b m (h.st.pl b m e)⟩, h.m0, fun j t v b q1 q2 ow => ?_, fun j k t u v x b q1 q2 q3 q4 o1 o2 => ?_⟩
  · rcases set_inv q1 with ⟨z, y⟩ | ⟨n, y⟩
    · subst z
      subst y
      rw [e2] at q2
      cases q2
      exact ⟨a, ws, rfl, fa, ma, upd_same, r⟩
    · exact (h.sl.ok j t v y q2).keep (.refl _) (fun b _ f _ => f) (fun b o ow e => by rw [ne b fun z => n (h.dis i j _ t _ v a e1 e2 y q2 rfl (z ▸ ow))]; exact e) np
  · rw [ne b fun z => by rw [z, fa] at e; cases e]
    exact h.st.fh b o e
  · rw [ne b fun z => by rw [z, h0] at e; cases e]
    exact h.st.hh b o e m
  · obtain ⟨t', z1, z2⟩ := back q1 q2 ow
    exact h.own j t' v b z1 q2 z2
  · obtain ⟨t', z1, z2⟩ := back q1 q2 o1
    obtain ⟨u', z3, z4⟩ := back q3 q4 o2
    exact h.dis j k t' u' v x b z1 q2 z3 q4 z2 z4
/-- the own list in slot i is frozen -/
theorem SSt.freeze (h : SSt K M H0 F0 F H ρ σ) {i : Nat} {xs : List PyData} (e : ρ[i]? = some (.l xs)) : ∃ F', SSt K M H0 F0 F' H (ρ.set i (.d (.list xs))) σ := by
  obtain ⟨a, vs, e2, fa, ma, ha, r⟩ := h.sl.own e
  have h0 := h.own i _ _ a e e2 rfl
  have ef : Same F (upd F a (.lst vs)) := same_upd fa
  have fh : Same (upd F a (.lst vs)) H := fun b o q => by
    by_cases hb : b = a
    · subst hb
      rw [upd_same] at q
      rw [ha, q]
    · rw [upd_ne hb] at q
      exact h.st.fh b o q
  have g : ∀ {j : Nat} {s : Sl} {w : Option V} {b : Addr}, (ρ.set i (.d (.list xs)))[j]? = some s → Owns s w b → ρ[j]? = some s := fun {j s w b} e ow => by
    rcases set_inv e with ⟨_, z⟩ | ⟨_, e⟩
    · subst z; exact ow.elim
    · exact e
  refine ⟨upd F a (.lst vs), ⟨⟨by rw [List.length_set]; exact h.sl.len, fun j s w q1 q2 => ?_, h.sl.mp⟩, ⟨h.st.ff.trans ef, fh, h.st.hh, fun b hb q => ?_, h.st.pl⟩, h.m0, fun j s w b q1 q2 ow => h.own j s w b (g q1 ow) q2 ow, fun j k s t v w b q1 q2 q3 q4 o1 o2 => h.dis j k s t v w b (g q1 o1) q2 (g q3 o2) q4 o1 o2⟩⟩
  · rcases set_inv q1 with ⟨z, y⟩ | ⟨n, y⟩
    · subst z
      subst y
      rw [e2] at q2
      cases q2
      exact ⟨.ref a, rfl, .lst upd_same (r.up ef)⟩
    · refine (h.sl.ok j s w y q2).keep ef (fun b hb f hn => ?_) (fun b o _ q => q) fun b _ q => q
      have nb : b ≠ a := fun z => by
        subst z
        rcases hb with ow | m
        · exact n (h.dis i j _ s _ w b e e2 y q2 rfl ow)
        · exact ma m
      rw [upd_ne nb]
      exact f
  · have nb : b ≠ a := fun z => hb (z ▸ h0)
    rw [upd_ne nb]
    exact h.st.nf b hb q
end
/-! ### statements -/
/-- from the slots ρ the statement comes to one of the ends Φ -/
def S (K : PySem.W.Frag) (M : Addr → Prop) (W : XK) (t : TS) (ρ : List Sl) (Φ : Out → Prop) : Prop :=
  ∀ (H0 F0 F H : Hp) (σ : L2.St) (D : Ends), SSt K M H0 F0 F H ρ σ →
    (∀ ρ' σ' F' H', Φ (.nx ρ') → SSt K M H0 F0 F' H' ρ' σ' → D.nx σ' H') →
    (∀ d v F' H', Φ (.rt d) → Step M F0 H0 F' H' → Rp K F' v d → D.rt v H') →
    (∀ ρ' σ' F' H', Φ (.bk ρ') → SSt K M H0 F0 F' H' ρ' σ' → D.bk σ' H') →
    (∀ ρ' σ' F' H', Φ (.ct ρ') → SSt K M H0 F0 F' H' ρ' σ' → D.ct σ' H') →
    (∀ C dd F' H', Φ (.ex C) → Step M F0 H0 F' H' → W (.ref C) dd H') → t D σ H
/-- what follows a statement -/
abbrev thenS (Φ : Out → Prop) (k : List Sl → Prop) : Out → Prop
  | .nx ρ => k ρ
  | o => Φ o
/-- the ends of a loop's turn -/
abbrev turnS (Φ : Out → Prop) (k : List Sl → Prop) : Out → Prop
  | .nx ρ => k ρ
  | .ct ρ => k ρ
  | .bk ρ => Φ (.nx ρ)
  | .rt d => Φ (.rt d)
  | .ex C => Φ (.ex C)
section
variable {K : PySem.W.Frag} {M : Addr → Prop} {W : XK} {ρ : List Sl} {te : TE} {tt : TT} {tA : TA} {t u : TS} {g : TG} {d : PyData} {P : PyData → Prop} {Φ Φ' : Out → Prop} {i : Nat}
theorem S.imp (h : S K M W t ρ Φ) (q : ∀ o, Φ o → Φ' o) : S K M W t ρ Φ' := fun H0 F0 F H σ D s k1 k2 k3 k4 k5 =>
  h H0 F0 F H σ D s (fun a b c e f => k1 a b c e (q _ f)) (fun a b c e f => k2 a b c e (q _ f)) (fun a b c e f => k3 a b c e (q _ f)) (fun a b c e f => k4 a b c e (q _ f)) (fun a b c e f => k5 a b c e (q _ f))
theorem s_seq (h : S K M W t ρ (thenS Φ fun ρ' => S K M W u ρ' Φ)) : S K M W (tSeq t u) ρ Φ := fun H0 F0 F H σ D s k1 k2 k3 k4 k5 =>
  h H0 F0 F H σ _ s (fun ρ' σ' F' H' q s' => q H0 F0 F' H' σ' D s' k1 k2 k3 k4 k5) (fun a b c e f => k2 a b c e f) (fun a b c e f => k3 a b c e f) (fun a b c e f => k4 a b c e f) (fun a b c e f => k5 a b c e f)
theorem s_next (h : Φ (.nx ρ)) : S K M W tNext ρ Φ := fun H0 F0 F H σ D s k1 _ _ _ _ => k1 ρ σ F H h s
theorem s_brk (h : Φ (.bk ρ)) : S K M W tBreak ρ Φ := fun H0 F0 F H σ D s _ _ k3 _ _ => k3 ρ σ F H h s
theorem s_cont (h : Φ (.ct ρ)) : S K M W tCont ρ Φ := fun H0 F0 F H σ D s _ _ _ k4 _ => k4 ρ σ F H h s
theorem s_retN (h : Φ (.rt .none)) : S K M W tRetN ρ Φ := fun H0 F0 F H σ D s _ k2 _ _ _ => k2 .none .non F H h s.st .non
theorem s_retP (h : EvN K M te ρ P) (q : ∀ d, P d → Φ (.rt d)) : S K M W (tRet te) ρ Φ := fun H0 F0 F H σ D s _ k2 _ _ _ =>
  h F H σ s.st.fh s.sl _ fun d v F' H' p st r => k2 d v F' H' (q d p) (s.st.trans s.m0 st) r
theorem s_ret (h : Ev K M te ρ d) (q : Φ (.rt d)) : S K M W (tRet te) ρ Φ := s_retP h fun _ e => by rw [e]; exact q
theorem s_setP (h : EvN K M te ρ P) (q : ∀ d, P d → Φ (.nx (ρ.set i (.d d)))) : S K M W (tAsg te (gName i)) ρ Φ := fun H0 F0 F H σ D s k1 _ _ _ _ =>
  h F H σ s.st.fh s.sl _ fun d v F' H' p st r => k1 _ _ F' H' (q d p) ((s.step st).setD i r)
theorem s_set (h : Ev K M te ρ d) (q : Φ (.nx (ρ.set i (.d d)))) : S K M W (tAsg te (gName i)) ρ Φ := s_setP h fun _ e => by rw [e]; exact q
/-- a new list takes the slot -/
theorem s_setLP {PA : List PyData → Prop} (h : ELN K M te ρ PA) (q : ∀ xs, PA xs → Φ (.nx (ρ.set i (.l xs)))) : S K M W (tAsg te (gName i)) ρ Φ := fun H0 F0 F H σ D s k1 _ _ _ _ =>
  h F H σ s.st.fh s.sl _ fun xs a vs F' H' p st fa ha ha' r => by
    have ma : ¬ M a := fun m => by
      obtain ⟨x, y, z, e⟩ := s.sl.mp a m
      rw [ha] at e
      cases e
    have h0 : H0 a = none := by
      cases e : H0 a with
      | none => rfl
      | some u => exact absurd ha (keepN M s.st.hh s.st.pl (s.m0 a) (by rw [e]; exact fun z => nomatch z))
    refine k1 _ _ F' H' (q xs p) ((s.step st).setL i fa ma ha' r h0 fun j t v n e1 e2 ow => ?_)
    exact ((s.sl.ok j t v e1 e2).owned ow).2.2 ha
theorem s_setL {xs : List PyData} (h : EL K M te ρ xs) (q : Φ (.nx (ρ.set i (.l xs)))) : S K M W (tAsg te (gName i)) ρ Φ := s_setLP h fun _ e => by rw [e]; exact q
theorem s_freeze {xs : List PyData} (e : ρ[i]? = some (.l xs)) (h : S K M W t (ρ.set i (.d (.list xs))) Φ) : S K M W t ρ Φ := fun H0 F0 F H σ D s k1 k2 k3 k4 k5 => by
  obtain ⟨F', s'⟩ := s.freeze e
  exact h H0 F0 F' H σ D s' k1 k2 k3 k4 k5
theorem s_forget (i : Nat) (h : S K M W t (ρ.set i .u) Φ) : S K M W t ρ Φ := fun H0 F0 F H σ D s k1 k2 k3 k4 k5 => h H0 F0 F H σ D (s.forget i) k1 k2 k3 k4 k5
theorem s_ifP {PB : Bool → Prop} (h : TN K M tt ρ PB) (q : ∀ b, PB b → (b = true → S K M W t ρ Φ) ∧ (b = false → S K M W u ρ Φ)) : S K M W (tIfS tt t u) ρ Φ := fun H0 F0 F H σ D s k1 k2 k3 k4 k5 =>
  h F H σ s.st.fh s.sl _ fun b F' H' p st => by
    have q := q b p
    cases b with
    | true => exact iteT (q.1 rfl H0 F0 F' H' σ D (s.step st) k1 k2 k3 k4 k5)
    | false => exact iteF (q.2 rfl H0 F0 F' H' σ D (s.step st) k1 k2 k3 k4 k5)
theorem s_if {b : Bool} (h : Te K M tt ρ b) (q1 : b = true → S K M W t ρ Φ) (q2 : b = false → S K M W u ρ Φ) : S K M W (tIfS tt t u) ρ Φ := s_ifP h fun c e => by
  subst e
  exact ⟨q1, q2⟩
theorem s_ifT (h : Te K M tt ρ true) (q : S K M W t ρ Φ) : S K M W (tIfS tt t u) ρ Φ := s_if h (fun _ => q) fun e => nomatch e
theorem s_ifF (h : Te K M tt ρ false) (q : S K M W u ρ Φ) : S K M W (tIfS tt t u) ρ Φ := s_if h (fun e => nomatch e) fun _ => q
theorem s_par {j : Nat} {a b : PyData} (h : Ag K M tA ρ [a, b]) (q : Φ (.nx ((ρ.set i (.d a)).set j (.d b)))) : S K M W (tPar i j tA) ρ Φ := fun H0 F0 F H σ D s k1 _ _ _ _ =>
  h F H σ s.st.fh s.sl _ fun ds vs F' H' p st r => by
    subst p
    obtain ⟨v, w, rfl, r1, r2⟩ := r.two
    exact ⟨v, w, rfl, k1 _ _ F' H' q (((s.step st).setD i r1).setD j r2)⟩
theorem s_drop (h : EvN K M te ρ P) (q : Φ (.nx ρ)) : S K M W (tDrop te) ρ Φ := fun H0 F0 F H σ D s k1 _ _ _ _ =>
  h F H σ s.st.fh s.sl _ fun d v F' H' p st r => k1 _ _ F' H' q (s.step st)
/-! targets -/
def Tg (K : PySem.W.Frag) (M : Addr → Prop) (g : TG) (ρ : List Sl) (d : PyData) (ρ' : List Sl) : Prop :=
  ∀ (H0 F0 F H : Hp) (σ : L2.St) (v : V) (Q : L2.St → Hp → Prop), SSt K M H0 F0 F H ρ σ → Rp K F v d → (∀ σ', SSt K M H0 F0 F H ρ' σ' → Q σ' H) → g v σ H Q
def TgA (K : PySem.W.Frag) (M : Addr → Prop) (g : TGs) (ρ : List Sl) (ds : List PyData) (ρ' : List Sl) : Prop :=
  ∀ (H0 F0 F H : Hp) (σ : L2.St) (vs : List V) (Q : L2.St → Hp → Prop), SSt K M H0 F0 F H ρ σ → RpA K F vs ds → (∀ σ', SSt K M H0 F0 F H ρ' σ' → Q σ' H) → g vs σ H Q
theorem tg_name : Tg K M (gName i) ρ d (ρ.set i (.d d)) := fun H0 F0 F H σ v Q s r q => q _ (s.setD i r)
theorem tgA_nil : TgA K M gNil ρ [] ρ := fun H0 F0 F H σ vs Q s r q => by
  cases r
  exact ⟨rfl, q _ s⟩
theorem tgA_cons {gs : TGs} {ds : List PyData} {ρ1 ρ2 : List Sl} (h : Tg K M g ρ d ρ1) (hs : TgA K M gs ρ1 ds ρ2) : TgA K M (gCons g gs) ρ (d :: ds) ρ2 := fun H0 F0 F H σ vs Q s r q => by
  cases r with
  | cons r1 r2 => exact ⟨_, _, rfl, h H0 F0 F H σ _ _ s r1 fun σ' s' => hs H0 F0 F H σ' _ _ s' r2 q⟩
theorem tg_tup {n : Nat} {gs : TGs} {ds : List PyData} {ρ' : List Sl} (hn : ds.length = n) (h : TgA K M gs ρ ds ρ') : Tg K M (gTup K n gs) ρ (.tuple ds) ρ' := fun H0 F0 F H σ v Q s r q => by
  obtain ⟨a, vs, rfl, hs, ra⟩ := r.tup_
  exact ⟨a, vs, rfl, sqt_mono s.st.fh hs, by rw [ra.length]; exact hn, h H0 F0 F H σ vs Q s ra q⟩
theorem s_asg {ρ' : List Sl} (h : Ev K M te ρ d) (hg : Tg K M g ρ d ρ') (q : Φ (.nx ρ')) : S K M W (tAsg te g) ρ Φ := fun H0 F0 F H σ D s k1 _ _ _ _ =>
  h F H σ s.st.fh s.sl _ fun d' v F' H' p st r => by
    subst p
    exact hg H0 F0 F' H' σ v _ (s.step st) r fun σ' s' => k1 _ _ F' H' q s'
theorem s_asgP {P : PyData → Prop} (h : EvN K M te ρ P) (hg : ∀ d, P d → ∃ ρ', Tg K M g ρ d ρ' ∧ Φ (.nx ρ')) : S K M W (tAsg te g) ρ Φ := fun H0 F0 F H σ D s k1 _ _ _ _ =>
  h F H σ s.st.fh s.sl _ fun d' v F' H' p st r => by
    obtain ⟨ρ', hg, q⟩ := hg d' p
    exact hg H0 F0 F' H' σ v _ (s.step st) r fun σ' s' => k1 _ _ F' H' q s'
/-! loops -/
/-- the frozen part at hand taken for the one at the entry -/
theorem SSt.base {H0 F0 F H : Hp} {σ : L2.St} (h : SSt K M H0 F0 F H ρ σ) : SSt K M H0 F F H ρ σ := ⟨h.sl, ⟨.refl _, h.st.fh, h.st.hh, fun _ _ e => e, h.st.pl⟩, h.m0, h.own, h.dis⟩
theorem Step.unbase {H0 F0 F H F' H' : Hp} (a : Step M F0 H0 F H) (b : Step M F H0 F' H') : Step M F0 H0 F' H' := ⟨a.ff.trans b.ff, b.fh, b.hh, fun c h e => b.nf c h (a.nf c h e), b.pl⟩
theorem SSt.unbase {H0 F0 F H F' H' : Hp} {ρ' : List Sl} {σ' : L2.St} (a : Step M F0 H0 F H) (h : SSt K M H0 F F' H' ρ' σ') : SSt K M H0 F0 F' H' ρ' σ' := ⟨h.sl, a.unbase h.st, h.m0, h.own, h.dis⟩
/-- over a list -/
theorem s_forL {xs : List PyData} (J : Nat → List Sl → Prop) (he : Ev K M te ρ (.list xs)) (h0 : J 0 ρ) (hg : ∀ (k : Nat) (x : PyData) (ρ' : List Sl), xs[k]? = some x → J k ρ' → ∃ ρ2, Tg K M g ρ' x ρ2 ∧ S K M W t ρ2 (turnS Φ (J (k + 1)))) (hd : ∀ ρ', J xs.length ρ' → Φ (.nx ρ')) :
    S K M W (tFor (iList K te) g t) ρ Φ := fun H0 F0 F H σ D s k1 k2 k3 k4 k5 =>
  he F H σ s.st.fh s.sl _ fun d' v F1 H1 p st r => by
    subst p
    obtain ⟨a, vs, rfl, ha, ra⟩ := r.lst_
    have s1 := s.step st
    refine ⟨a, rfl, ⟨vs, .of (st.fh _ _ ha)⟩, for_list (K := K) (a := a) (xs := vs) (fun k σ' H' => ∃ F' ρ', J k ρ' ∧ SSt K M H0 F1 F' H' ρ' σ') ⟨F1, ρ, h0, s1.base⟩ (fun k σ' H' _ ⟨F', ρ', _, s'⟩ => .of (s'.st.fh _ _ (s'.st.ff _ _ ha))) ?_ ?_⟩
    · rintro k y σ' H' hy ⟨F', ρ', j, s'⟩
      obtain ⟨x, hx, rx⟩ := ra.getV hy
      obtain ⟨ρ2, htg, hS⟩ := hg k x ρ' hx j
      refine htg H0 F1 F' H' σ' y _ s' (rx.up s'.st.ff) fun σ2 s2 => ?_
      refine hS H0 F1 F' H' σ2 _ s2 (fun ρ3 σ3 F3 H3 q s3 => ⟨F3, ρ3, q, s3⟩) (fun d v F3 H3 q st3 r3 => k2 d v F3 H3 q (s1.st.unbase st3) r3) (fun ρ3 σ3 F3 H3 q s3 => k1 _ _ _ _ q (s3.unbase s1.st)) (fun ρ3 σ3 F3 H3 q s3 => ⟨F3, ρ3, q, s3⟩) (fun C dd F3 H3 q st3 => k5 C dd F3 H3 q (s1.st.unbase st3))
    · rintro σ' H' ⟨F', ρ', j, s'⟩
      rw [ra.length] at j
      exact k1 _ _ _ _ (hd ρ' j) (s'.unbase s1.st)
/-- over a tuple -/
theorem s_forT {xs : List PyData} (J : Nat → List Sl → Prop) (he : Ev K M te ρ (.tuple xs)) (h0 : J 0 ρ) (hg : ∀ (k : Nat) (x : PyData) (ρ' : List Sl), xs[k]? = some x → J k ρ' → ∃ ρ2, Tg K M g ρ' x ρ2 ∧ S K M W t ρ2 (turnS Φ (J (k + 1)))) (hd : ∀ ρ', J xs.length ρ' → Φ (.nx ρ')) :
    S K M W (tFor (iTup K te) g t) ρ Φ := fun H0 F0 F H σ D s k1 k2 k3 k4 k5 =>
  he F H σ s.st.fh s.sl _ fun d' v F1 H1 p st r => by
    subst p
    obtain ⟨a, vs, rfl, ha, ra⟩ := r.tup_
    have s1 := s.step st
    refine ⟨a, rfl, ⟨vs, sqt_mono st.fh ha⟩, for_tup (K := K) (a := a) (xs := vs) (fun k σ' H' => ∃ F' ρ', J k ρ' ∧ SSt K M H0 F1 F' H' ρ' σ') ⟨F1, ρ, h0, s1.base⟩ (fun k σ' H' _ ⟨F', ρ', _, s'⟩ => sqt_mono s'.st.fh (sqt_mono s'.st.ff ha)) ?_ ?_⟩
    · rintro k y σ' H' hy ⟨F', ρ', j, s'⟩
      obtain ⟨x, hx, rx⟩ := ra.getV hy
      obtain ⟨ρ2, htg, hS⟩ := hg k x ρ' hx j
      refine htg H0 F1 F' H' σ' y _ s' (rx.up s'.st.ff) fun σ2 s2 => ?_
      refine hS H0 F1 F' H' σ2 _ s2 (fun ρ3 σ3 F3 H3 q s3 => ⟨F3, ρ3, q, s3⟩) (fun d v F3 H3 q st3 r3 => k2 d v F3 H3 q (s1.st.unbase st3) r3) (fun ρ3 σ3 F3 H3 q s3 => k1 _ _ _ _ q (s3.unbase s1.st)) (fun ρ3 σ3 F3 H3 q s3 => ⟨F3, ρ3, q, s3⟩) (fun C dd F3 H3 q st3 => k5 C dd F3 H3 q (s1.st.unbase st3))
    · rintro σ' H' ⟨F', ρ', j, s'⟩
      rw [ra.length] at j
      exact k1 _ _ _ _ (hd ρ' j) (s'.unbase s1.st)
/-- over a range -/
theorem s_forR {n : Nat} {J : Nat → List Sl → Prop} (he : Ag K M tA ρ [.int n]) (hn : n < 1000) (h0 : J 0 ρ) (hg : ∀ (k : Nat) (ρ' : List Sl), k < n → J k ρ' → ∃ ρ2, Tg K M g ρ' (.int k) ρ2 ∧ S K M W t ρ2 (turnS Φ (J (k + 1)))) (hd : ∀ ρ', J n ρ' → Φ (.nx ρ')) :
    S K M W (tFor (iRng1 tA) g t) ρ Φ := fun H0 F0 F H σ D s k1 k2 k3 k4 k5 =>
  he F H σ s.st.fh s.sl _ fun d' v F1 H1 p st r => by
    subst p
    obtain ⟨w, rfl, rw_⟩ := r.one
    rw [rw_.int_]
    have s1 := s.step st
    refine ⟨n, rfl, by have : (-(2:Int)^62) ≤ 0 := by decide
                       omega, by have : (1000:Int) < 2^62 := by decide
                                 omega, for_range (lo := 0) (n := (n : Int).toNat) (fun k σ' H' => ∃ F' ρ', J k ρ' ∧ SSt K M H0 F1 F' H' ρ' σ') ⟨F1, ρ, h0, s1.base⟩ ?_ ?_⟩
    · rintro k σ' H' hk ⟨F', ρ', j, s'⟩
      obtain ⟨ρ2, htg, hS⟩ := hg k ρ' (by simpa using hk) j
      refine htg H0 F1 F' H' σ' _ _ s' (by rw [Int.zero_add]; exact .int _) fun σ2 s2 => ?_
      refine hS H0 F1 F' H' σ2 _ s2 (fun ρ3 σ3 F3 H3 q s3 => ⟨F3, ρ3, q, s3⟩) (fun d v F3 H3 q st3 r3 => k2 d v F3 H3 q (s1.st.unbase st3) r3) (fun ρ3 σ3 F3 H3 q s3 => k1 _ _ _ _ q (s3.unbase s1.st)) (fun ρ3 σ3 F3 H3 q s3 => ⟨F3, ρ3, q, s3⟩) (fun C dd F3 H3 q st3 => k5 C dd F3 H3 q (s1.st.unbase st3))
    · rintro σ' H' ⟨F', ρ', j, s'⟩
      rw [Int.toNat_natCast] at j
      exact k1 _ _ _ _ (hd ρ' j) (s'.unbase s1.st)
/-- over enumerate -/
theorem s_forE {xs : List PyData} (J : Nat → List Sl → Prop) (he : Ag K M tA ρ [.list xs]) (h0 : J 0 ρ) (hg : ∀ (k : Nat) (x : PyData) (ρ' : List Sl), xs[k]? = some x → J k ρ' → ∃ ρ2, Tg K M g ρ' (.tuple [.int k, x]) ρ2 ∧ S K M W t ρ2 (turnS Φ (J (k + 1)))) (hd : ∀ ρ', J xs.length ρ' → Φ (.nx ρ')) :
    S K M W (tFor (iEnum K tA) g t) ρ Φ := fun H0 F0 F H σ D s k1 k2 k3 k4 k5 =>
  he F H σ s.st.fh s.sl _ fun d' v F1 H1 p st r => by
    subst p
    obtain ⟨w, rfl, rw_⟩ := r.one
    obtain ⟨a, vs, rfl, ha, ra⟩ := rw_.lst_
    have s1 := s.step st
    refine ⟨a, vs, rfl, .of (st.fh _ _ ha), fun k m σ' H' => m = vs.length - k ∧ k ≤ vs.length ∧ ∃ F' ρ', J k ρ' ∧ SSt K M H0 F1 F' H' ρ' σ', ⟨vs.length, by simp, Nat.zero_le _, F1, ρ, h0, s1.base⟩, ?_⟩
    rintro k m σ' H' ⟨rfl, hk, F', ρ', j, s'⟩
    have ha' : SqL K H' a vs := .of (s'.st.fh _ _ (s'.st.ff _ _ ha))
    by_cases hlt : k < vs.length
    · refine .inr ⟨⟨vs, vs[k], ha', by simp [hlt]⟩, fun σ' H' => ∃ F' ρ', J (k + 1) ρ' ∧ SSt K M H0 F1 F' H' ρ' σ', fun σ' H' p' => ⟨vs.length - (k + 1), by omega, rfl, hlt, p'⟩, fun x H2 y => ?_⟩
      obtain ⟨T, z, rfl, nT, rfl, f⟩ := y
      have hz := f vs ha'
      obtain ⟨x, hx, rx⟩ := ra.getV hz
      obtain ⟨ρ2, htg, hS⟩ := hg k x ρ' hx j
      have stn : Step M F' H' (upd F' T (.tup [.int (k : Nat), z])) (upd H' T (.tup [.int (k : Nat), z])) := .new s'.st.fh nT
      have s2 := s'.step stn
      refine htg H0 F1 _ _ σ' _ _ s2 (.tup (.inl (.inl upd_same)) (.cons (.int _) (.cons (rx.up (s'.st.ff.trans stn.ff)) .nil))) fun σ2 s2 => ?_
      refine hS H0 F1 _ _ σ2 _ s2 (fun ρ3 σ3 F3 H3 q s3 => ⟨F3, ρ3, q, s3⟩) (fun d v F3 H3 q st3 r3 => k2 d v F3 H3 q (s1.st.unbase st3) r3) (fun ρ3 σ3 F3 H3 q s3 => k1 _ _ _ _ q (s3.unbase s1.st)) (fun ρ3 σ3 F3 H3 q s3 => ⟨F3, ρ3, q, s3⟩) (fun C dd F3 H3 q st3 => k5 C dd F3 H3 q (s1.st.unbase st3))
    · have e : k = vs.length := by omega
      subst e
      rw [ra.length] at j
      exact .inl ⟨⟨vs, ha', Nat.le_refl _⟩, k1 _ _ _ _ (hd ρ' j) (s'.unbase s1.st)⟩
/-- over zip -/
theorem s_forZ {xs ys : List PyData} (J : Nat → List Sl → Prop) (he : Ag K M tA ρ [.list xs, .list ys]) (h0 : J 0 ρ) (hg : ∀ (k : Nat) (x y : PyData) (ρ' : List Sl), xs[k]? = some x → ys[k]? = some y → J k ρ' → ∃ ρ2, Tg K M g ρ' (.tuple [x, y]) ρ2 ∧ S K M W t ρ2 (turnS Φ (J (k + 1))))
    (hd : ∀ ρ', J (min xs.length ys.length) ρ' → Φ (.nx ρ')) : S K M W (tFor (iZip K tA) g t) ρ Φ := fun H0 F0 F H σ D s k1 k2 k3 k4 k5 =>
  he F H σ s.st.fh s.sl _ fun d' v F1 H1 p st r => by
    subst p
    obtain ⟨w1, w2, rfl, rx, ry⟩ := r.two
    obtain ⟨a, vs, rfl, ha, ra⟩ := rx.lst_
    obtain ⟨b, ws, rfl, hb, rb⟩ := ry.lst_
    have s1 := s.step st
    refine ⟨a, b, vs, ws, rfl, .of (st.fh _ _ ha), .of (st.fh _ _ hb), fun k m σ' H' => m = min vs.length ws.length - k ∧ k ≤ min vs.length ws.length ∧ ∃ F' ρ', J k ρ' ∧ SSt K M H0 F1 F' H' ρ' σ', ⟨min vs.length ws.length, by simp, Nat.zero_le _, F1, ρ, h0, s1.base⟩, ?_⟩
    rintro k m σ' H' ⟨rfl, hk, F', ρ', j, s'⟩
    have ha' : SqL K H' a vs := .of (s'.st.fh _ _ (s'.st.ff _ _ ha))
    have hb' : SqL K H' b ws := .of (s'.st.fh _ _ (s'.st.ff _ _ hb))
    by_cases hlt : k < min vs.length ws.length
    · have l1 : k < vs.length := by omega
      have l2 : k < ws.length := by omega
      refine .inr ⟨⟨vs, ws, vs[k], ws[k], ha', hb', by simp [l1], by simp [l2]⟩, fun σ' H' => ∃ F' ρ', J (k + 1) ρ' ∧ SSt K M H0 F1 F' H' ρ' σ', fun σ' H' p' => ⟨min vs.length ws.length - (k + 1), by omega, rfl, hlt, p'⟩, fun x H2 y => ?_⟩
      obtain ⟨T, z1, z2, rfl, nT, rfl, f1, f2⟩ := y
      obtain ⟨x, hx, rx⟩ := ra.getV (f1 vs ha')
      obtain ⟨y, hy, ry⟩ := rb.getV (f2 ws hb')
      obtain ⟨ρ2, htg, hS⟩ := hg k x y ρ' hx hy j
      have stn : Step M F' H' (upd F' T (.tup [z1, z2])) (upd H' T (.tup [z1, z2])) := .new s'.st.fh nT
      have s2 := s'.step stn
      refine htg H0 F1 _ _ σ' _ _ s2 (.tup (.inl (.inl upd_same)) (.cons (rx.up (s'.st.ff.trans stn.ff)) (.cons (ry.up (s'.st.ff.trans stn.ff)) .nil))) fun σ2 s2 => ?_
      refine hS H0 F1 _ _ σ2 _ s2 (fun ρ3 σ3 F3 H3 q s3 => ⟨F3, ρ3, q, s3⟩) (fun d v F3 H3 q st3 r3 => k2 d v F3 H3 q (s1.st.unbase st3) r3) (fun ρ3 σ3 F3 H3 q s3 => k1 _ _ _ _ q (s3.unbase s1.st)) (fun ρ3 σ3 F3 H3 q s3 => ⟨F3, ρ3, q, s3⟩) (fun C dd F3 H3 q st3 => k5 C dd F3 H3 q (s1.st.unbase st3))
    · have e : k = min vs.length ws.length := by omega
      subst e
      rw [ra.length, rb.length] at j
      exact .inl ⟨⟨vs, ws, ha', hb', by omega⟩, k1 _ _ _ _ (hd ρ' j) (s'.unbase s1.st)⟩
/-- while: J by a measure -/
theorem s_while (J : Nat → List Sl → Prop) {m0 : Nat} (h0 : J m0 ρ) (hs : ∀ m ρ', J m ρ' → ∃ b, Te K M tt ρ' b ∧ (b = true → S K M W t ρ' (turnS Φ fun ρ2 => ∃ m', m' < m ∧ J m' ρ2)) ∧ (b = false → Φ (.nx ρ'))) : S K M W (tWhile tt t) ρ Φ := fun H0 F0 F H σ D s k1 k2 k3 k4 k5 => by
  refine ⟨fun m σ' H' => ∃ F' ρ', J m ρ' ∧ SSt K M H0 F0 F' H' ρ' σ', ⟨m0, F, ρ, h0, s⟩, ?_⟩
  rintro m σ' H' ⟨F', ρ', j, s'⟩
  obtain ⟨b, hb, q1, q2⟩ := hs m ρ' j
  refine hb F' H' σ' s'.st.fh s'.sl _ fun c F1 H1 e st => ?_
  subst e
  cases c with
  | true =>
    refine iteT ⟨fun σ' H' => ∃ m' F' ρ', m' < m ∧ J m' ρ' ∧ SSt K M H0 F0 F' H' ρ' σ', fun σ2 H2 ⟨m', F2, ρ2, hm, j2, s2⟩ => ⟨m', hm, F2, ρ2, j2, s2⟩, ?_⟩
    exact q1 rfl H0 F0 F1 H1 σ' _ (s'.step st) (fun ρ3 σ3 F3 H3 ⟨m', hm, q⟩ s3 => ⟨m', F3, ρ3, hm, q, s3⟩) (fun d v F3 H3 q st3 r3 => k2 d v F3 H3 q st3 r3) (fun ρ3 σ3 F3 H3 q s3 => k1 _ _ _ _ q s3) (fun ρ3 σ3 F3 H3 ⟨m', hm, q⟩ s3 => ⟨m', F3, ρ3, hm, q, s3⟩) (fun C dd F3 H3 q st3 => k5 C dd F3 H3 q st3)
  | false => exact iteF (k1 _ _ _ _ (q2 rfl) (s'.step st))
end
end PD
/-! PD3: own lists, operators, slices, comprehensions, defs -/
namespace PD
open PySem PySem.Spec PyProof.Rows L2
theorem small {n : Nat} (h : n ≤ 1000) : n < sizeLine := small1000 h
section
variable {K : PySem.W.Frag} {M : Addr → Prop} {W : XK} {ρ : List Sl} {te tj : TE} {tt : TT} {tA : TA} {t u : TS} {g : TG} {d : PyData} {P : PyData → Prop} {Φ Φ' : Out → Prop} {i : Nat} {xs : List PyData}
/-! ### own lists -/
theorem s_appendP (e : ρ[i]? = some (.l xs)) (h : EvN K M te ρ P) (hl : xs.length < 1000) (q : ∀ d, P d → Φ (.nx (ρ.set i (.l (xs ++ [d]))))) : S K M W (tDrop (tBM K "list" rAppend (tVar i) (tCons te tNil))) ρ Φ := fun H0 F0 F H σ D s k1 _ _ _ _ => by
  obtain ⟨a, vs, e2, fa, ma, ha, r⟩ := s.sl.own e
  refine ⟨.ref a, e2, .inl ⟨rfl, vs, .of ha⟩, h F H σ s.st.fh s.sl _ fun d v F' H' p st rd => ?_⟩
  have fa' := st.nf a (by rw [ha]; exact fun z => nomatch z) fa
  exact ⟨a, vs, v, rfl, rfl, st.hh a _ ha ma, small (by rw [r.length]; omega), k1 _ _ F' _ (q d p) ((s.step st).putL e e2 fa' ma ((r.up st.ff).append (.cons rd .nil)))⟩
theorem s_append (e : ρ[i]? = some (.l xs)) (h : Ev K M te ρ d) (hl : xs.length < 1000) (q : Φ (.nx (ρ.set i (.l (xs ++ [d]))))) : S K M W (tDrop (tBM K "list" rAppend (tVar i) (tCons te tNil))) ρ Φ := s_appendP e h hl fun _ z => by rw [z]; exact q
theorem s_extend {ys : List PyData} (e : ρ[i]? = some (.l xs)) (h : Ev K M te ρ (.list ys)) (hl : xs.length + ys.length ≤ 1000) (q : Φ (.nx (ρ.set i (.l (xs ++ ys))))) : S K M W (tDrop (tBM K "list" rExtend (tVar i) (tCons te tNil))) ρ Φ := fun H0 F0 F H σ D s k1 _ _ _ _ => by
  obtain ⟨a, vs, e2, fa, ma, ha, r⟩ := s.sl.own e
  refine ⟨.ref a, e2, .inl ⟨rfl, vs, .of ha⟩, h F H σ s.st.fh s.sl _ fun d v F' H' p st rd => ?_⟩
  subst p
  obtain ⟨b, ws, rfl, hb, rb⟩ := rd.lst_
  have fa' := st.nf a (by rw [ha]; exact fun z => nomatch z) fa
  exact ⟨a, b, vs, ws, rfl, rfl, st.hh a _ ha ma, st.fh _ _ hb, Nat.le_of_lt (small (by rw [r.length, rb.length]; omega)), k1 _ _ F' _ q ((s.step st).putL e e2 fa' ma ((r.up st.ff).append rb))⟩
theorem s_insert {j : Nat} (e : ρ[i]? = some (.l xs)) (hj : Ev K M tj ρ (.int j)) (h : Ev K M te ρ d) (hl : xs.length < 1000) (hj2 : j ≤ 1000) (q : Φ (.nx (ρ.set i (.l (xs.take j ++ [d] ++ xs.drop j))))) :
    S K M W (tDrop (tBM K "list" (fun x vs H Q => ∃ (l : Addr) (xs : List V) (i : Int) (y : V), x = .ref l ∧ vs = [.int i, y] ∧ H l = some (.lst xs) ∧ xs.length < sizeLine ∧ 0 ≤ i ∧ i < 2 ^ 63 ∧ Q .non (upd H l (.lst (xs.take i.toNat ++ [y] ++ xs.drop i.toNat)))) (tVar i) (tCons tj (tCons te tNil)))) ρ Φ := fun H0 F0 F H σ D s k1 _ _ _ _ => by
  obtain ⟨a, vs, e2, fa, ma, ha, r⟩ := s.sl.own e
  refine ⟨.ref a, e2, .inl ⟨rfl, vs, .of ha⟩, ag_cons hj (ag_cons h ag_nil) F H σ s.st.fh s.sl _ fun d' v F' H' p st rd => ?_⟩
  subst p
  obtain ⟨w1, w2, rfl, r1, r2⟩ := rd.two
  have fa' := st.nf a (by rw [ha]; exact fun z => nomatch z) fa
  rw [r1.int_]
  have h63 : ((j : Nat) : Int) < 2 ^ 63 := by
    have : (1000 : Int) < 2 ^ 63 := by decide
    omega
  refine ⟨a, vs, j, w2, rfl, rfl, st.hh a _ ha ma, small (by rw [r.length]; omega), Int.natCast_nonneg _, h63, k1 _ _ F' _ q ((s.step st).putL e e2 fa' ma ?_)⟩
  rw [Int.toNat_natCast]
  exact (((r.up st.ff).take j).append (.cons r2 .nil)).append ((r.up st.ff).drop j)
theorem s_putP {k : Nat} (e : ρ[i]? = some (.l xs)) (h : EvN K M te ρ P) (hj : Ev K M tj ρ (.int k)) (hl : k < xs.length) (q : ∀ d, P d → Φ (.nx (ρ.set i (.l (xs.set k d))))) : S K M W (tAsg te (gSub (tVar i) tj rSetL)) ρ Φ := fun H0 F0 F H σ D s k1 _ _ _ _ => by
  refine h F H σ s.st.fh s.sl _ fun d v F' H' p st rd => ?_
  have s' := s.step st
  obtain ⟨a, vs, e2, fa, ma, ha, r⟩ := s'.sl.own e
  refine ⟨.ref a, e2, hj F' H' σ s'.st.fh s'.sl _ fun d2 v2 F2 H2 p2 st2 rd2 => ?_⟩
  subst p2
  rw [rd2.int_]
  have fa' := st2.nf a (by rw [ha]; exact fun z => nomatch z) fa
  refine ⟨a, vs, k, k, rfl, rfl, st2.hh a _ ha ma, ?_, k1 _ _ F2 _ (q d p) ((s'.step st2).putL e e2 fa' ma (.set (rd.up st2.ff) k (r.up st2.ff)))⟩
  unfold ixN
  rw [if_pos (Int.natCast_nonneg _), if_pos (by rw [r.length]; omega), Int.toNat_natCast]
theorem s_put {k : Nat} (e : ρ[i]? = some (.l xs)) (h : Ev K M te ρ d) (hj : Ev K M tj ρ (.int k)) (hl : k < xs.length) (q : Φ (.nx (ρ.set i (.l (xs.set k d))))) : S K M W (tAsg te (gSub (tVar i) tj rSetL)) ρ Φ := s_putP e h hj hl fun _ z => by rw [z]; exact q
theorem s_reverse (e : ρ[i]? = some (.l xs)) (q : Φ (.nx (ρ.set i (.l xs.reverse)))) : S K M W (tDrop (tBM0 K "list" rReverse (tVar i))) ρ Φ := fun H0 F0 F H σ D s k1 _ _ _ _ => by
  obtain ⟨a, vs, e2, fa, ma, ha, r⟩ := s.sl.own e
  exact ⟨.ref a, e2, .inl ⟨rfl, vs, .of ha⟩, a, vs, rfl, rfl, ha, k1 _ _ F _ q (s.putL e e2 fa ma r.reverse)⟩
/-! ### items -/
theorem atI_rp {K : PySem.W.Frag} {F : Hp} {ds : List PyData} {vs : List V} {j : Int} {d : PyData} (r : RpA K F vs ds) (h : atI ds j = some d) : ∃ v, atI vs j = some v ∧ Rp K F v d := by
  unfold atI at h ⊢
  rw [r.length]
  cases e : ixN ds.length j with
  | none => rw [e] at h; cases h
  | some k =>
    rw [e] at h
    exact r.get h
theorem ev_ixO {j : Int} (e : ρ[i]? = some (.l xs)) (hj : Ev K M tj ρ (.int j)) (h : atI xs j = some d) : Ev K M (tOp (rIxL K) (tVar i) tj) ρ d := fun F H σ s o Q q => by
  obtain ⟨a, vs, e2, fa, ma, ha, r⟩ := o.own e
  refine ⟨.ref a, e2, hj F H σ s o _ fun d2 v2 F2 H2 p2 st2 rd2 => ?_⟩
  subst p2
  rw [rd2.int_]
  obtain ⟨v, h1, rv⟩ := atI_rp (r.up st2.ff) h
  exact ⟨a, vs, j, v, rfl, rfl, .of (st2.hh a _ ha ma), h1, q _ v F2 H2 rfl st2 rv⟩
theorem ev_lenO (e : ρ[i]? = some (.l xs)) : Ev K M (tCB (fun xs H Q => ∃ p ys, xs = [.ref p] ∧ (SqL K H p ys ∨ SqT K H p ys) ∧ Q (.int ys.length) H) (tCons (tVar i) tNil)) ρ (.int xs.length) := fun F H σ s o Q q => by
  obtain ⟨a, vs, e2, fa, ma, ha, r⟩ := o.own e
  refine ⟨.ref a, e2, a, vs, rfl, .inl (.of ha), q _ _ F H rfl (.refl s) ?_⟩
  rw [r.length]
  exact .int _
/-! ### slices -/
def cutL {α : Type} (xs : List α) (lo hi : Option Int) : List α := (xs.drop (HT.sIx xs.length 0 lo)).take (HT.sIx xs.length xs.length hi - HT.sIx xs.length 0 lo)
theorem RpA.cut {F : Hp} {ds : List PyData} {vs : List V} (r : RpA K F vs ds) (lo hi : Option Int) : RpA K F (cutV vs lo hi) (cutL ds lo hi) := by
  unfold cutV cutL
  rw [r.length]
  exact (r.drop _).take _
def Pr (K : PySem.W.Frag) (M : Addr → Prop) (to : TO) (ρ : List Sl) (o : Option Int) : Prop :=
  ∀ (F H : Hp) (σ : L2.St), Same F H → SlsOk K M F H ρ σ → ∀ Q : Option Int → Hp → Prop, (∀ F' H', Step M F H F' H' → Q o H') → to σ H Q
theorem pr_none : Pr K M tNoPart ρ none := fun F H σ s o Q q => q F H (.refl s)
theorem pr_some {j : Int} (h : Ev K M te ρ (.int j)) : Pr K M (tPart te) ρ (some j) := fun F H σ s o Q q => h F H σ s o _ fun d v F' H' p st r => by
  subst p
  exact ⟨j, r.int_, q F' H' st⟩
theorem freeBack {F H F' H' : Hp} {p : Addr} (st : Step M F H F' H') (mp : ∀ b, M b → IsPool H b) (np : H' p = none) : H p = none := by
  cases e : H p with
  | none => rfl
  | some u => exact absurd np (keepN M st.hh st.pl (mp p) (by rw [e]; exact fun z => nomatch z))
theorem el_sl {tl th : TO} {lo hi : Option Int} (h : Ev K M te ρ (.list xs)) (hl : Pr K M tl ρ lo) (hh : Pr K M th ρ hi) : EL K M (tSl (rSlL K) te tl th) ρ (cutL xs lo hi) := fun F H σ s o Q q =>
  h F H σ s o _ fun d v F1 H1 p s1 r => by
    subst p
    obtain ⟨a, vs, rfl, ha, ra⟩ := r.lst_
    have o1 := o.step s1
    refine hl F1 H1 σ s1.fh o1 _ fun F2 H2 s2 => hh F2 H2 σ s2.fh (o1.step s2) _ fun F3 H3 s3 => ?_
    have st := (s1.trans o.mp s2).trans o.mp s3
    refine ⟨a, vs, rfl, .of (s3.fh _ _ (s3.ff _ _ (s2.ff _ _ ha))), fun p np => ?_⟩
    exact q _ p _ F3 _ rfl (st.trans o.mp (.newU s3.fh np)) (s3.fh.free np) (freeBack st o.mp np) upd_same ((ra.up (s2.ff.trans s3.ff)).cut lo hi)
theorem el_slO {tl th : TO} {lo hi : Option Int} (e : ρ[i]? = some (.l xs)) (hl : Pr K M tl ρ lo) (hh : Pr K M th ρ hi) : EL K M (tSl (rSlL K) (tVar i) tl th) ρ (cutL xs lo hi) := fun F H σ s o Q q => by
  obtain ⟨a, vs, e2, fa, ma, ha, ra⟩ := o.own e
  refine ⟨.ref a, e2, hl F H σ s o _ fun F2 H2 s2 => hh F2 H2 σ s2.fh (o.step s2) _ fun F3 H3 s3 => ?_⟩
  have st := s2.trans o.mp s3
  refine ⟨a, vs, rfl, .of (st.hh _ _ ha ma), fun p np => ?_⟩
  exact q _ p _ F3 _ rfl (st.trans o.mp (.newU s3.fh np)) (s3.fh.free np) (freeBack st o.mp np) upd_same ((ra.up st.ff).cut lo hi)
theorem ev_slT {tl th : TO} {lo hi : Option Int} (h : Ev K M te ρ (.tuple xs)) (hl : Pr K M tl ρ lo) (hh : Pr K M th ρ hi) (hn : ¬ (HT.sIx xs.length 0 lo = 0 ∧ HT.sIx xs.length xs.length hi = xs.length)) : Ev K M (tSl (rSlT K) te tl th) ρ (.tuple (cutL xs lo hi)) := fun F H σ s o Q q =>
  h F H σ s o _ fun d v F1 H1 p s1 r => by
    subst p
    obtain ⟨a, vs, rfl, ha, ra⟩ := r.tup_
    have o1 := o.step s1
    refine hl F1 H1 σ s1.fh o1 _ fun F2 H2 s2 => hh F2 H2 σ s2.fh (o1.step s2) _ fun F3 H3 s3 => ?_
    have st := (s1.trans o.mp s2).trans o.mp s3
    refine ⟨a, vs, rfl, sqt_mono s3.fh (sqt_mono (s2.ff.trans s3.ff) ha), by rw [ra.length]; exact hn, fun p np => ?_⟩
    have sn : Step M F3 H3 (upd F3 p (.tup (cutV vs lo hi))) (upd H3 p (.tup (cutV vs lo hi))) := .new s3.fh np
    exact q _ _ _ _ rfl (st.trans o.mp sn) (.tup (.inl (.inl upd_same)) ((ra.up ((s2.ff.trans s3.ff).trans sn.ff)).cut lo hi))
/-! ### lists made of others -/
theorem el_listT (h : Ev K M te ρ (.tuple xs)) : EL K M (tCB (fun xs H Q => ∃ p ys, xs = [.ref p] ∧ (SqL K H p ys ∨ SqT K H p ys) ∧ ∀ l, H l = none → Q (.ref l) (upd H l (.lst ys))) (tCons te tNil)) ρ xs := fun F H σ s o Q q =>
  h F H σ s o _ fun d v F1 H1 p s1 r => by
    subst p
    obtain ⟨a, vs, rfl, ha, ra⟩ := r.tup_
    exact ⟨a, vs, rfl, .inr (sqt_mono s1.fh ha), fun p np => q _ p _ F1 _ rfl (s1.trans o.mp (.newU s1.fh np)) (s1.fh.free np) (freeBack s1 o.mp np) upd_same ra⟩
theorem el_listL (h : Ev K M te ρ (.list xs)) : EL K M (tCB (fun xs H Q => ∃ p ys, xs = [.ref p] ∧ (SqL K H p ys ∨ SqT K H p ys) ∧ ∀ l, H l = none → Q (.ref l) (upd H l (.lst ys))) (tCons te tNil)) ρ xs := fun F H σ s o Q q =>
  h F H σ s o _ fun d v F1 H1 p s1 r => by
    subst p
    obtain ⟨a, vs, rfl, ha, ra⟩ := r.lst_
    exact ⟨a, vs, rfl, .inl (.of (s1.fh _ _ ha)), fun p np => q _ p _ F1 _ rfl (s1.trans o.mp (.newU s1.fh np)) (s1.fh.free np) (freeBack s1 o.mp np) upd_same ra⟩
/-- tuple(list): a new tuple -/
theorem cb_tupleL : CbD K (fun xs H Q => ∃ p ys, xs = [.ref p] ∧ ((SqL K H p ys ∧ ∀ l, H l = none → Q (.ref l) (upd H l (.tup ys))) ∨ (SqT K H p ys ∧ Q (.ref p) H))) [.list xs] (.tuple xs) := fun M F H vs Q s r q => by
  obtain ⟨v, rfl, rv⟩ := r.one
  obtain ⟨a, ws, rfl, ha, ra⟩ := rv.lst_
  refine ⟨a, ws, rfl, .inl ⟨.of (s _ _ ha), fun p np => ?_⟩⟩
  have sn : Step M F H (upd F p (.tup ws)) (upd H p (.tup ws)) := .new s np
  exact q _ _ _ sn (.tup (.inl (.inl upd_same)) (ra.up sn.ff))
theorem cb_lenL : CbD K (fun xs H Q => ∃ p ys, xs = [.ref p] ∧ (SqL K H p ys ∨ SqT K H p ys) ∧ Q (.int ys.length) H) [.list xs] (.int xs.length) := fun M F H vs Q s r q => by
  obtain ⟨v, rfl, rv⟩ := r.one
  obtain ⟨a, ws, rfl, ha, ra⟩ := rv.lst_
  refine ⟨a, ws, rfl, .inl (.of (s _ _ ha)), q _ F H (.refl s) ?_⟩
  rw [ra.length]
  exact .int _
theorem cb_lenT : CbD K (fun xs H Q => ∃ p ys, xs = [.ref p] ∧ (SqL K H p ys ∨ SqT K H p ys) ∧ Q (.int ys.length) H) [.tuple xs] (.int xs.length) := fun M F H vs Q s r q => by
  obtain ⟨v, rfl, rv⟩ := r.one
  obtain ⟨a, ws, rfl, ha, ra⟩ := rv.tup_
  refine ⟨a, ws, rfl, .inr (sqt_mono s ha), q _ F H (.refl s) ?_⟩
  rw [ra.length]
  exact .int _
theorem cb_abs {j : Int} : CbD K (fun xs H Q => ∃ i, xs = [.int i] ∧ Q (.int (if i < 0 then -i else i)) H) [.int j] (.int (if j < 0 then -j else j)) := fun M F H vs Q s r q => by
  obtain ⟨v, rfl, rv⟩ := r.one
  exact ⟨j, by rw [rv.int_], q _ F H (.refl s) (.int _)⟩
theorem cb_min2 {j k : Int} : CbD K (fun xs H Q => ∃ i j, xs = [.int i, .int j] ∧ Q (.int (if j < i then j else i)) H) [.int j, .int k] (.int (if k < j then k else j)) := fun M F H vs Q s r q => by
  obtain ⟨v, w, rfl, rv, rw_⟩ := r.two
  exact ⟨j, k, by rw [rv.int_, rw_.int_], q _ F H (.refl s) (.int _)⟩
theorem cb_max2 {j k : Int} : CbD K (fun xs H Q => ∃ i j, xs = [.int i, .int j] ∧ Q (.int (if j > i then j else i)) H) [.int j, .int k] (.int (if k > j then k else j)) := fun M F H vs Q s r q => by
  obtain ⟨v, w, rfl, rv, rw_⟩ := r.two
  exact ⟨j, k, by rw [rv.int_, rw_.int_], q _ F H (.refl s) (.int _)⟩
theorem cb_intB {c : Bool} : CbD K (fun xs H Q => (∃ i, xs = [.int i] ∧ Q (.int i) H) ∨ ∃ k, xs = [.bl k] ∧ Q (.int (if k then 1 else 0)) H) [.bool c] (.int (if c then 1 else 0)) := fun M F H vs Q s r q => by
  obtain ⟨v, rfl, rv⟩ := r.one
  exact .inr ⟨c, by rw [rv.bl_], q _ F H (.refl s) (.int _)⟩
theorem bools_of {F : Hp} : ∀ {bs : List Bool} {vs : List V}, RpA K F vs (bs.map PyData.bool) → vs = bs.map V.bl
  | [], _, h => by cases h; rfl
  | b :: bs, _, h => by
    cases h with
    | cons h1 h2 => rw [h1.bl_, bools_of h2]; rfl
theorem cb_all {bs : List Bool} : CbD K (rAll K) [.list (bs.map .bool)] (.bool (bs.all id)) := fun M F H vs Q s r q => by
  obtain ⟨v, rfl, rv⟩ := r.one
  obtain ⟨a, ws, rfl, ha, ra⟩ := rv.lst_
  rw [bools_of ra] at ha
  exact ⟨a, bs, rfl, .of (s _ _ ha), q _ F H (.refl s) (.bl _)⟩
theorem cb_any {bs : List Bool} : CbD K (rAny K) [.list (bs.map .bool)] (.bool (bs.any id)) := fun M F H vs Q s r q => by
  obtain ⟨v, rfl, rv⟩ := r.one
  obtain ⟨a, ws, rfl, ha, ra⟩ := rv.lst_
  rw [bools_of ra] at ha
  exact ⟨a, bs, rfl, .of (s _ _ ha), q _ F H (.refl s) (.bl _)⟩
/-! ### operators -/
theorem od_I0 {f : Int → Int → V} {a b : Int} (r : ∀ F, Rp K F (f a b) d) : OpD K (rI0 f) (.int a) (.int b) d := fun M F H x y Q s rx ry q => by
  rw [rx.int_, ry.int_]
  exact ⟨a, b, rfl, rfl, q _ F H (.refl s) (r F)⟩
theorem od_I {C : Int → Int → Prop} {f : Int → Int → V} {a b : Int} (r : ∀ F, Rp K F (f a b) d) (h : C a b) : OpD K (rI C f) (.int a) (.int b) d := fun M F H x y Q s rx ry q => by
  rw [rx.int_, ry.int_]
  exact ⟨a, b, rfl, rfl, h, q _ F H (.refl s) (r F)⟩
theorem od_add {a b : Int} : OpD K (rI0 fun i j => .int (i + j)) (.int a) (.int b) (.int (a + b)) := od_I0 fun _ => .int _
theorem od_sub {a b : Int} : OpD K (rI0 fun i j => .int (i - j)) (.int a) (.int b) (.int (a - b)) := od_I0 fun _ => .int _
theorem od_lt {a b : Int} : OpD K (rI0 fun i j => .bl (decide (i < j))) (.int a) (.int b) (.bool (decide (a < b))) := od_I0 fun _ => .bl _
theorem od_gt {a b : Int} : OpD K (rI0 fun i j => .bl (decide (j < i))) (.int a) (.int b) (.bool (decide (b < a))) := od_I0 fun _ => .bl _
theorem od_le {a b : Int} : OpD K (rI0 fun i j => .bl (decide (i ≤ j))) (.int a) (.int b) (.bool (decide (a ≤ b))) := od_I0 fun _ => .bl _
theorem od_ge {a b : Int} : OpD K (rI0 fun i j => .bl (decide (j ≤ i))) (.int a) (.int b) (.bool (decide (b ≤ a))) := od_I0 fun _ => .bl _
theorem od_mulW {a b : Int} (h : CMulW a b) : OpD K (rI CMulW fun i j => .int (i * j)) (.int a) (.int b) (.int (a * b)) := od_I (fun _ => .int _) h
theorem od_mod {a b : Int} (h : b ≠ 0) : OpD K (rI (fun _ j => j ≠ 0) fun i j => .int (i.fmod j)) (.int a) (.int b) (.int (a.fmod b)) := od_I (fun _ => .int _) h
theorem od_pow {a b : Int} (h : CPow a b) : OpD K (rI CPow fun i j => .int (i ^ j.toNat)) (.int a) (.int b) (.int (a ^ b.toNat)) := od_I (fun _ => .int _) h
/-- // by a divisor of either sign below 2 ^ 9000 -/
def CDivZ (_ j : Int) : Prop := j ≠ 0 ∧ j.natAbs.log2 < 9000
theorem op_fdivZ {X : Cx} : OpR X (binaryOp .FloorDiv) (rI CDivZ fun i j => .int (i.fdiv j)) := opI fun i j _ _ _ _ _ hc q => floordiv_int hc.1 q (.inl (PyProof.noPylong_of_log2 hc.2))
theorem od_fdiv {a b : Int} (h : CDivZ a b) : OpD K (rI CDivZ fun i j => .int (i.fdiv j)) (.int a) (.int b) (.int (a.fdiv b)) := od_I (fun _ => .int _) h
theorem od_eqI {a b : Int} : OpD K rEq (.int a) (.int b) (.bool (decide (a = b))) := fun M F H x y Q s rx ry q => by
  rw [rx.int_, ry.int_]
  refine ⟨rfl, ?_⟩
  have e : decide (V.int a = V.int b) = decide (a = b) := by
    by_cases h : a = b
    · rw [h]; simp
    · rw [decide_eq_false h, decide_eq_false fun z => h (V.int.inj z)]
  rw [e]
  exact q _ F H (.refl s) (.bl _)
theorem od_neI {a b : Int} : OpD K rNe (.int a) (.int b) (.bool (!decide (a = b))) := fun M F H x y Q s rx ry q => by
  rw [rx.int_, ry.int_]
  refine ⟨rfl, ?_⟩
  have e : decide (V.int a = V.int b) = decide (a = b) := by
    by_cases h : a = b
    · rw [h]; simp
    · rw [decide_eq_false h, decide_eq_false fun z => h (V.int.inj z)]
  rw [e]
  exact q _ F H (.refl s) (.bl _)
theorem od_eqS {a b : Str} : OpD K rEq (.str a) (.str b) (.bool (decide (a = b))) := fun M F H x y Q s rx ry q => by
  rw [rx.str_, ry.str_]
  refine ⟨rfl, ?_⟩
  have e : decide (V.str a = V.str b) = decide (a = b) := by
    by_cases h : a = b
    · rw [h]; simp
    · rw [decide_eq_false h, decide_eq_false fun z => h (V.str.inj z)]
  rw [e]
  exact q _ F H (.refl s) (.bl _)
theorem od_neS {a b : Str} : OpD K rNe (.str a) (.str b) (.bool (!decide (a = b))) := fun M F H x y Q s rx ry q => by
  rw [rx.str_, ry.str_]
  refine ⟨rfl, ?_⟩
  have e : decide (V.str a = V.str b) = decide (a = b) := by
    by_cases h : a = b
    · rw [h]; simp
    · rw [decide_eq_false h, decide_eq_false fun z => h (V.str.inj z)]
  rw [e]
  exact q _ F H (.refl s) (.bl _)
theorem od_eqD {a b : PyData} (ha : SeqAt.shaped a = true) (hb : SeqAt.shaped b = true) : OpD K (rEqD K) a b (.bool (PyData.eqv a b)) := fun M F H x y Q s rx ry q =>
  ⟨a, b, Rp.dp s a x rx, Rp.dp s b y ry, ha, hb, q _ F H (.refl s) (.bl _)⟩
theorem od_neD {a b : PyData} (ha : SeqAt.shaped a = true) (hb : SeqAt.shaped b = true) : OpD K (rNeD K) a b (.bool (!PyData.eqv a b)) := fun M F H x y Q s rx ry q =>
  ⟨a, b, Rp.dp s a x rx, Rp.dp s b y ry, ha, hb, q _ F H (.refl s) (.bl _)⟩
def isNone : PyData → Bool
  | .none => true
  | _ => false
theorem isNone_v {F : Hp} {v : V} {a : PyData} (r : Rp K F v a) : decide (v = .non) = isNone a := by
  cases r <;> rfl
theorem od_isN {a : PyData} : OpD K (fun x y H Q => y = .non ∧ Q (.bl (decide (x = .non))) H) a .none (.bool (isNone a)) := fun M F H x y Q s rx ry q =>
  ⟨ry.non_, by rw [isNone_v rx]; exact q _ F H (.refl s) (.bl _)⟩
theorem od_notN {a : PyData} : OpD K (fun x y H Q => y = .non ∧ Q (.bl (!decide (x = .non))) H) a .none (.bool (!isNone a)) := fun M F H x y Q s rx ry q =>
  ⟨ry.non_, by rw [isNone_v rx]; exact q _ F H (.refl s) (.bl _)⟩
theorem od_ixT {j : Int} (h : atI xs j = some d) : OpD K (rIxT K) (.tuple xs) (.int j) d := fun M F H x y Q s rx ry q => by
  obtain ⟨a, vs, rfl, ha, ra⟩ := rx.tup_
  rw [ry.int_]
  obtain ⟨v, h1, rv⟩ := atI_rp ra h
  exact ⟨a, vs, j, v, rfl, rfl, sqt_mono s ha, h1, q v F H (.refl s) rv⟩
theorem od_ixL {j : Int} (h : atI xs j = some d) : OpD K (rIxL K) (.list xs) (.int j) d := fun M F H x y Q s rx ry q => by
  obtain ⟨a, vs, rfl, ha, ra⟩ := rx.lst_
  rw [ry.int_]
  obtain ⟨v, h1, rv⟩ := atI_rp ra h
  exact ⟨a, vs, j, v, rfl, rfl, .of (s _ _ ha), h1, q v F H (.refl s) rv⟩
theorem od_catT {x : PyData} {ys : List PyData} (hl : (x :: xs).length + ys.length ≤ 1000) : OpD K (rCatT K) (.tuple (x :: xs)) (.tuple ys) (.tuple (x :: xs ++ ys)) := fun M F H x y Q s rx ry q => by
  obtain ⟨a, vs, rfl, ha, ra⟩ := rx.tup_
  obtain ⟨b, ws, rfl, hb, rb⟩ := ry.tup_
  refine ⟨a, b, vs, ws, rfl, rfl, sqt_mono s ha, sqt_mono s hb, fun z => ?_, Nat.le_of_lt (small (by rw [ra.length, rb.length]; exact hl)), fun z => ?_, fun z p np => ?_⟩
  · subst z
    cases ra
  · subst z
    cases rb
    refine q _ F H (.refl s) ?_
    rw [List.append_nil]
    exact .tup ha ra
  · have sn : Step M F H (upd F p (.tup (vs ++ ws))) (upd H p (.tup (vs ++ ws))) := .new s np
    exact q _ _ _ sn (.tup (.inl (.inl upd_same)) ((ra.append rb).up sn.ff))
theorem ol_cat {ys : List PyData} (hl : xs.length + ys.length ≤ 1000) : OpL K rCat (.list xs) (.list ys) (xs ++ ys) := fun M F H x y Q s rx ry q => by
  obtain ⟨a, vs, rfl, ha, ra⟩ := rx.lst_
  obtain ⟨b, ws, rfl, hb, rb⟩ := ry.lst_
  exact ⟨a, b, vs, ws, rfl, rfl, s _ _ ha, s _ _ hb, Nat.le_of_lt (small (by rw [ra.length, rb.length]; exact hl)), fun p np => q p _ np (ra.append rb)⟩
theorem ints_of {F : Hp} : ∀ {ns : List Int} {vs : List V}, RpA K F vs (ns.map PyData.int) → vs = ns.map V.int
  | [], _, h => by cases h; rfl
  | b :: bs, _, h => by
    cases h with
    | cons h1 h2 => rw [h1.int_, ints_of h2]; rfl
theorem flat_ints : ∀ (ns : List Int), (ns.map V.int).all flatV = true
  | [] => rfl
  | n :: ns => by
    show (flatV (.int n) && (ns.map V.int).all flatV) = true
    rw [flat_ints ns] <;> rfl
theorem od_notInT {n : Int} {ns : List Int} : OpD K (rIn K true) (.int n) (.tuple (ns.map .int)) (.bool (!inV (.int n) (ns.map .int))) := fun M F H x y Q s rx ry q => by
  obtain ⟨a, vs, rfl, ha, ra⟩ := ry.tup_
  rw [ints_of ra] at ha
  rw [rx.int_]
  exact ⟨a, _, rfl, .inr (sqt_mono s ha), rfl, flat_ints ns, q _ F H (.refl s) (.bl _)⟩
theorem od_inD {a : PyData} (ha : SeqAt.shaped a = true) (hb : SeqAt.shaped (.list xs) = true) : OpD K (rInD K) a (.list xs) (.bool (xs.any fun z => PyData.eqv z a)) := fun M F H x y Q s rx ry q =>
  ⟨a, xs, Rp.dp s a x rx, Rp.dp s _ y ry, ha, hb, q _ F H (.refl s) (.bl _)⟩
end
end PD
/-! PD4: comprehensions, defs, the pool, what may be raised -/
namespace PD
open PySem PySem.Spec PyProof.Rows L2
section
variable {K : PySem.W.Frag} {M : Addr → Prop} {W : XK} {ρ : List Sl} {te tj tel : TE} {tt : TT} {tA : TA} {t u : TS} {g : TG} {d : PyData} {P : PyData → Prop} {Φ Φ' : Out → Prop} {i : Nat} {xs : List PyData}
/-! ### comprehensions -/
def wipeS (ρ : List Sl) : List Nat → List Sl
  | [] => ρ
  | v :: vs => (wipeS ρ vs).set v .u
theorem SlsOk.wipe {F H : Hp} {σ : L2.St} (h : SlsOk K M F H ρ σ) : ∀ vs : List Nat, SlsOk K M F H (wipeS ρ vs) (L2.wipe σ vs)
  | [] => h
  | v :: vs => (SlsOk.wipe h vs).set v (s := .u) (w := none) trivial
theorem set_comm' {α : Type} (l : List α) (i j : Nat) (x : α) : (l.set i x).set j x = (l.set j x).set i x := by
  by_cases h : i = j
  · rw [h]
  · exact List.set_comm x x h
theorem wipe_set (σ : L2.St) (w : Option V) : ∀ {vs : List Nat} {i : Nat}, i ∈ vs → L2.wipe (σ.set i w) vs = L2.wipe σ vs
  | v :: vs, i, h => by
    unfold L2.wipe
    by_cases hi : i ∈ vs
    · rw [wipe_set σ w hi]
    · have e : i = v := by
        rcases List.mem_cons.mp h with e | e
        · exact e
        · exact absurd e hi
      subst e
      have g : ∀ {us : List Nat}, i ∉ us → L2.wipe (σ.set i w) us = (L2.wipe σ us).set i w := by
        intro us
        induction us with
        | nil => intro _; rfl
        | cons u us ih =>
          intro hu
          have h1 : i ≠ u := fun z => hu (z ▸ List.mem_cons_self)
          have h2 : i ∉ us := fun z => hu (List.mem_cons_of_mem _ z)
          show (L2.wipe (σ.set i w) us).set u none = ((L2.wipe σ us).set u none).set i w
          rw [ih h2, List.set_comm _ _ h1]
      rw [g hi, List.set_set]
theorem wipe_out' (σ : L2.St) {u : Nat} : ∀ us : List Nat, (L2.wipe σ us).set u none = L2.wipe (σ.set u none) us
  | [] => rfl
  | v :: us => by
    show ((L2.wipe σ us).set v none).set u none = (L2.wipe (σ.set u none) us).set v none
    rw [← wipe_out' σ us, set_comm']
theorem wipe_idem (σ : L2.St) : ∀ vs : List Nat, L2.wipe (L2.wipe σ vs) vs = L2.wipe σ vs
  | [] => rfl
  | v :: vs => by
    show (L2.wipe ((L2.wipe σ vs).set v none) vs).set v none = (L2.wipe σ vs).set v none
    rw [← wipe_out' _ vs, wipe_idem σ vs, List.set_set]
/-- a comprehension's target; vs: the block's own slots -/
def TgE (K : PySem.W.Frag) (M : Addr → Prop) (vs : List Nat) (g : TG) (ρ : List Sl) (d : PyData) (ρ' : List Sl) : Prop :=
  ∀ (F H : Hp) (σ : L2.St) (v : V) (Q : L2.St → Hp → Prop), Same F H → SlsOk K M F H ρ σ → Rp K F v d → (∀ σ', SlsOk K M F H ρ' σ' → L2.wipe σ' vs = L2.wipe σ vs → Q σ' H) → g v σ H Q
def TgEA (K : PySem.W.Frag) (M : Addr → Prop) (vs : List Nat) (g : TGs) (ρ : List Sl) (ds : List PyData) (ρ' : List Sl) : Prop :=
  ∀ (F H : Hp) (σ : L2.St) (ws : List V) (Q : L2.St → Hp → Prop), Same F H → SlsOk K M F H ρ σ → RpA K F ws ds → (∀ σ', SlsOk K M F H ρ' σ' → L2.wipe σ' vs = L2.wipe σ vs → Q σ' H) → g ws σ H Q
theorem te_name {vs : List Nat} (hi : i ∈ vs) : TgE K M vs (gName i) ρ d (ρ.set i (.d d)) := fun F H σ v Q s o r q => q _ (o.set i ⟨v, rfl, r⟩) (wipe_set σ _ hi)
theorem teA_nil {vs : List Nat} : TgEA K M vs gNil ρ [] ρ := fun F H σ ws Q s o r q => by
  cases r
  exact ⟨rfl, q _ o rfl⟩
theorem teA_cons {vs : List Nat} {gs : TGs} {ds : List PyData} {ρ1 ρ2 : List Sl} (h : TgE K M vs g ρ d ρ1) (hs : TgEA K M vs gs ρ1 ds ρ2) : TgEA K M vs (gCons g gs) ρ (d :: ds) ρ2 := fun F H σ ws Q s o r q => by
  cases r with
  | cons r1 r2 => exact ⟨_, _, rfl, h F H σ _ _ s o r1 fun σ' o' e => hs F H σ' _ _ s o' r2 fun σ2 o2 e2 => q σ2 o2 (e2.trans e)⟩
theorem te_tup {vs : List Nat} {n : Nat} {gs : TGs} {ds : List PyData} {ρ' : List Sl} (hn : ds.length = n) (h : TgEA K M vs gs ρ ds ρ') : TgE K M vs (gTup K n gs) ρ (.tuple ds) ρ' := fun F H σ v Q s o r q => by
  obtain ⟨a, ws, rfl, hs, ra⟩ := r.tup_
  exact ⟨a, ws, rfl, sqt_mono s hs, by rw [ra.length]; exact hn, h F H σ ws Q s o ra q⟩
theorem te_yes : Te K M tYes ρ true := fun F H σ s o Q q => q true F H rfl (.refl s)
/-- one item of a comprehension: kept (p) with the value f, or not -/
structure Item (K : PySem.W.Frag) (M : Addr → Prop) (vs : List Nat) (g : TG) (tt : TT) (tel : TE) (ρ : List Sl) (x : PyData) (p : Bool) (y : PyData) : Prop where
  ex : ∃ ρ2, TgE K M vs g (wipeS ρ vs) x ρ2 ∧ Te K M tt ρ2 p ∧ (p = true → Ev K M tel ρ2 y)
theorem item_map {vs : List Nat} {x y : PyData} {ρ2 : List Sl} (h : TgE K M vs g (wipeS ρ vs) x ρ2) (e : Ev K M tel ρ2 y) : Item K M vs g tYes tel ρ x true y := ⟨ρ2, h, te_yes, fun _ => e⟩
/-- the state of a comprehension at its i-th item -/
def LcSt (K : PySem.W.Frag) (M : Addr → Prop) (F1 H1 : Hp) (D : Addr) (done : List PyData) (ρ : List Sl) (σ : L2.St) (H : Hp) : Prop :=
  ∃ F acc, Step M F1 H1 F H ∧ SlsOk K M F H ρ σ ∧ F D = none ∧ ¬ M D ∧ H D = some (.lst acc) ∧ RpA K F acc done
theorem lc_turn {vs : List Nat} {F1 H1 H : Hp} {D : Addr} {done : List PyData} {σ : L2.St} {x : PyData} {v : V} {p : Bool} {y : PyData} {Nx : Hp → Prop} (it : Item K M vs g tt tel ρ x p y)
    (hd : H1 D = none) (o1 : SlsOk K M F1 H1 ρ σ) (st : LcSt K M F1 H1 D done ρ σ H) (rx : Rp K F1 v x) (hl : done.length < 1000) (k : ∀ H', LcSt K M F1 H1 D (if p then done ++ [y] else done) ρ σ H' → Nx H') :
    g v (L2.wipe σ vs) H fun σ2 H2 => L2.wipe σ2 vs = L2.wipe σ vs ∧ tt σ2 H2 fun b H3 => if b = true then tel σ2 H3 fun z H4 => ∃ acc, H4 D = some (.lst acc) ∧ acc.length < sizeLine ∧ Nx (upd H4 D (.lst (acc ++ [z]))) else Nx H3 := by
  obtain ⟨F, acc, s1, o, fd, md, hD, ra⟩ := st
  obtain ⟨ρ2, hg, ht, he⟩ := it.ex
  refine hg F H _ v _ s1.fh (o.wipe vs) (rx.up s1.ff) fun σ2 o2 e2 => ⟨e2.trans (wipe_idem σ vs), ht F H σ2 s1.fh o2 _ fun b F3 H3 eb s3 => ?_⟩
  subst eb
  have keep : ∀ {F4 H4 : Hp}, Step M F H F4 H4 → F4 D = none ∧ H4 D = some (.lst acc) := fun {F4 H4} s4 => ⟨s4.nf D (by rw [hD]; exact fun z => nomatch z) fd, s4.hh D _ hD md⟩
  cases b with
  | true =>
    refine iteT (he rfl F3 H3 σ2 s3.fh (o2.step s3) _ fun z zv F4 H4 ez s4 rz => ?_)
    subst ez
    have s34 := s3.trans o.mp s4
    obtain ⟨fd4, hD4⟩ := keep s34
    refine ⟨acc, hD4, small (by rw [ra.length]; omega), k _ ?_⟩
    have s14 := s1.trans o1.mp s34
    have hh : ∀ b, b ≠ D → upd H4 D (.lst (acc ++ [zv])) b = H4 b := fun b hb => upd_ne hb
    refine ⟨F4, acc ++ [zv], ⟨s14.ff, fun b o e => ?_, fun b o e m => ?_, s14.nf, fun b m e => ?_⟩, ?_, fd4, md, upd_same, ?_⟩
    · rw [hh b fun z => by rw [z, fd4] at e; cases e]
      exact s14.fh b o e
    · rw [hh b fun z => by rw [z, hd] at e; cases e]
      exact s14.hh b o e m
    · obtain ⟨a1, a2, a3, e4⟩ := s14.pl b m e
      exact ⟨a1, a2, a3, by rw [hh b fun z => md (z ▸ m)]; exact e4⟩
    · have o4 := (o.step s34)
      refine ⟨o4.len, fun j s w q1 q2 => ?_, fun b m => ?_⟩
      · have q := o4.ok j s w q1 q2
        have q0 := o1.ok j s w q1 q2
        exact q.keep (.refl _) (fun b _ f _ => f) (fun b o ow e => by rw [hh b fun z => (q0.owned ow).2.2 (z ▸ hd)]; exact e) fun b m ⟨a1, a2, a3, e4⟩ => ⟨a1, a2, a3, by rw [hh b fun z => md (z ▸ m)]; exact e4⟩
      · obtain ⟨a1, a2, a3, e4⟩ := o4.mp b m
        exact ⟨a1, a2, a3, by rw [hh b fun z => md (z ▸ m)]; exact e4⟩
    · exact (ra.up s34.ff).append (.cons rz .nil)
  | false =>
    refine iteF (k _ ?_)
    obtain ⟨fd3, hD3⟩ := keep s3
    exact ⟨F3, acc, s1.trans o1.mp s3, o.step s3, fd3, md, hD3, ra.up s3.ff⟩
theorem take_succ' {α : Type} {l : List α} {k : Nat} {x : α} (h : l[k]? = some x) : l.take (k + 1) = l.take k ++ [x] := by
  rw [List.take_add_one, h]
  rfl
/-- what a comprehension makes of the first k items -/
def made (xs : List PyData) (p : Nat → Bool) (f : Nat → PyData) : Nat → List PyData
  | 0 => []
  | k + 1 => if p k then made xs p f k ++ [f k] else made xs p f k
theorem made_len (xs : List PyData) (p : Nat → Bool) (f : Nat → PyData) : ∀ k, (made xs p f k).length ≤ k
  | 0 => Nat.le_refl _
  | k + 1 => by
    have h := made_len xs p f k
    unfold made
    split
    · rw [List.length_append, List.length_singleton]
      omega
    · omega
theorem el_lcL {vs : List Nat} (p : Nat → Bool) (f : Nat → PyData) (he : Ev K M te ρ (.list xs)) (hl : xs.length ≤ 1000) (it : ∀ (k : Nat) (x : PyData), xs[k]? = some x → Item K M vs g tt tel ρ x (p k) (f k)) : EL K M (tLc (iList K te) g tt tel vs) ρ (made xs p f xs.length) := fun F H σ s o Q q =>
  he F H σ s o _ fun d' v F1 H1 e st r => by
    subst e
    obtain ⟨a, ws, rfl, ha, ra⟩ := r.lst_
    have o1 := o.step st
    refine ⟨a, rfl, ⟨ws, .of (st.fh _ _ ha)⟩, fun D nD => ?_⟩
    have mD : ¬ M D := fun m => by
      obtain ⟨x, y, z, e⟩ := o1.mp D m
      rw [nD] at e
      cases e
    refine lc_list (K := K) (a := a) (xs := ws) (fun k H' => LcSt K M F1 H1 D (made xs p f k) ρ σ H') ?_ (fun k H' _ ⟨F', acc, s1, _⟩ => .of (s1.fh _ _ (s1.ff _ _ ha))) ?_ ?_
    · have sn : Step M F1 H1 F1 (upd H1 D (.lst [])) := .newU st.fh nD
      exact ⟨F1, [], sn, o1.step sn, st.fh.free nD, mD, upd_same, .nil⟩
    · intro k y H' hy hs
      obtain ⟨x, hx, rx⟩ := ra.getV hy
      have hk : k < xs.length := (List.getElem?_eq_some_iff.mp hx).1
      exact lc_turn (it k x hx) nD o1 hs rx (by have := made_len xs p f k; omega) fun H2 h2 => h2
    · rintro H' ⟨F', acc, s1, o', fd, md, hD, racc⟩
      rw [ra.length] at racc
      exact q _ D acc F' H' rfl (st.trans o.mp s1) fd (freeBack st o.mp nD) hD racc
theorem el_lcT {vs : List Nat} (p : Nat → Bool) (f : Nat → PyData) (he : Ev K M te ρ (.tuple xs)) (hl : xs.length ≤ 1000) (it : ∀ (k : Nat) (x : PyData), xs[k]? = some x → Item K M vs g tt tel ρ x (p k) (f k)) : EL K M (tLc (iTup K te) g tt tel vs) ρ (made xs p f xs.length) := fun F H σ s o Q q =>
  he F H σ s o _ fun d' v F1 H1 e st r => by
    subst e
    obtain ⟨a, ws, rfl, ha, ra⟩ := r.tup_
    have o1 := o.step st
    refine ⟨a, rfl, ⟨ws, sqt_mono st.fh ha⟩, fun D nD => ?_⟩
    have mD : ¬ M D := fun m => by
      obtain ⟨x, y, z, e⟩ := o1.mp D m
      rw [nD] at e
      cases e
    refine lc_tup (K := K) (a := a) (xs := ws) (fun k H' => LcSt K M F1 H1 D (made xs p f k) ρ σ H') ?_ (fun k H' _ ⟨F', acc, s1, _⟩ => sqt_mono s1.fh (sqt_mono s1.ff ha)) ?_ ?_
    · have sn : Step M F1 H1 F1 (upd H1 D (.lst [])) := .newU st.fh nD
      exact ⟨F1, [], sn, o1.step sn, st.fh.free nD, mD, upd_same, .nil⟩
    · intro k y H' hy hs
      obtain ⟨x, hx, rx⟩ := ra.getV hy
      have hk : k < xs.length := (List.getElem?_eq_some_iff.mp hx).1
      exact lc_turn (it k x hx) nD o1 hs rx (by have := made_len xs p f k; omega) fun H2 h2 => h2
    · rintro H' ⟨F', acc, s1, o', fd, md, hD, racc⟩
      rw [ra.length] at racc
      exact q _ D acc F' H' rfl (st.trans o.mp s1) fd (freeBack st o.mp nD) hD racc
theorem el_lcR {vs : List Nat} {n : Nat} (p : Nat → Bool) (f : Nat → PyData) (he : Ag K M tA ρ [.int n]) (hl : n ≤ 1000) (it : ∀ (k : Nat), k < n → Item K M vs g tt tel ρ (.int k) (p k) (f k)) : EL K M (tLc (iRng1 tA) g tt tel vs) ρ (made [] p f n) := fun F H σ s o Q q =>
  he F H σ s o _ fun d' v F1 H1 e st r => by
    subst e
    obtain ⟨w, rfl, rw_⟩ := r.one
    rw [rw_.int_]
    have o1 := o.step st
    have b1 : -(2 : Int) ^ 62 ≤ 0 := by decide
    have b2 : (1000 : Int) < 2 ^ 62 := by decide
    refine ⟨n, rfl, by omega, by omega, fun D nD => ?_⟩
    have mD : ¬ M D := fun m => by
      obtain ⟨x, y, z, e⟩ := o1.mp D m
      rw [nD] at e
      cases e
    refine lc_range (lo := 0) (n := (n : Int).toNat) (fun k H' => LcSt K M F1 H1 D (made [] p f k) ρ σ H') ?_ ?_ ?_
    · have sn : Step M F1 H1 F1 (upd H1 D (.lst [])) := .newU st.fh nD
      exact ⟨F1, [], sn, o1.step sn, st.fh.free nD, mD, upd_same, .nil⟩
    · intro k H' hk hs
      have hk : k < n := by simpa using hk
      refine lc_turn (it k hk) nD o1 hs ?_ (by have := made_len [] p f k; omega) fun H2 h2 => h2
      rw [Int.zero_add]
      exact .int _
    · rintro H' ⟨F', acc, s1, o', fd, md, hD, racc⟩
      rw [Int.toNat_natCast] at racc
      exact q _ D acc F' H' rfl (st.trans o.mp s1) fd (freeBack st o.mp nD) hD racc
theorem made_map {ys : List PyData} {f : Nat → PyData} {h : PyData → PyData} (e : ∀ (k : Nat) (x : PyData), ys[k]? = some x → f k = h x) : ∀ k, k ≤ ys.length → made ys (fun _ => true) f k = (ys.take k).map h
  | 0, _ => rfl
  | k + 1, hk => by
    have hx : ys[k]? = some ys[k] := List.getElem?_eq_getElem (by omega)
    unfold made
    rw [if_pos rfl, made_map e k (by omega), take_succ' hx, List.map_append, e k _ hx]
    rfl
/-- [h x for x in xs] -/
theorem el_mapL {vs : List Nat} {h : PyData → PyData} (he : Ev K M te ρ (.list xs)) (hl : xs.length ≤ 1000) (it : ∀ (x : PyData), x ∈ xs → ∃ ρ2, TgE K M vs g (wipeS ρ vs) x ρ2 ∧ Ev K M tel ρ2 (h x)) : EL K M (tLc (iList K te) g tYes tel vs) ρ (xs.map h) := by
  have q := el_lcL (tt := tYes) (fun _ => true) (fun k => match xs[k]? with | some x => h x | none => .none) he hl fun k x hx => by
    obtain ⟨ρ2, h1, h2⟩ := it x (List.mem_of_getElem? hx)
    rw [hx]
    exact item_map h1 h2
  rw [made_map (h := h) (fun k x hx => by rw [hx]) _ (Nat.le_refl _), List.take_length] at q
  exact q
theorem el_mapT {vs : List Nat} {h : PyData → PyData} (he : Ev K M te ρ (.tuple xs)) (hl : xs.length ≤ 1000) (it : ∀ (x : PyData), x ∈ xs → ∃ ρ2, TgE K M vs g (wipeS ρ vs) x ρ2 ∧ Ev K M tel ρ2 (h x)) : EL K M (tLc (iTup K te) g tYes tel vs) ρ (xs.map h) := by
  have q := el_lcT (tt := tYes) (fun _ => true) (fun k => match xs[k]? with | some x => h x | none => .none) he hl fun k x hx => by
    obtain ⟨ρ2, h1, h2⟩ := it x (List.mem_of_getElem? hx)
    rw [hx]
    exact item_map h1 h2
  rw [made_map (h := h) (fun k x hx => by rw [hx]) _ (Nat.le_refl _), List.take_length] at q
  exact q
/-- the same of data that stand for things -/
theorem el_mapLf {α : Type} {vs : List Nat} {zs : List α} (enc : α → PyData) {h : α → PyData} (he : Ev K M te ρ (.list (zs.map enc))) (hl : zs.length ≤ 1000) (it : ∀ (x : α), x ∈ zs → ∃ ρ2, TgE K M vs g (wipeS ρ vs) (enc x) ρ2 ∧ Ev K M tel ρ2 (h x)) : EL K M (tLc (iList K te) g tYes tel vs) ρ (zs.map h) := by
  have q := el_lcL (tt := tYes) (fun _ => true) (fun k => match zs[k]? with | some x => h x | none => .none) he (by rw [List.length_map]; exact hl) fun k x hx => by
    rw [List.getElem?_map] at hx
    cases e : zs[k]? with
    | none => rw [e] at hx; cases hx
    | some z =>
      rw [e] at hx
      cases hx
      obtain ⟨ρ2, h1, h2⟩ := it z (List.mem_of_getElem? e)
      exact item_map h1 h2
  have key : ∀ k, k ≤ zs.length → made (zs.map enc) (fun _ => true) (fun k => match zs[k]? with | some x => h x | none => .none) k = (zs.take k).map h := by
    intro k
    induction k with
    | zero => intro _; rfl
    | succ k ih =>
      intro hk
      have hx : zs[k]? = some zs[k] := List.getElem?_eq_getElem (by omega)
      unfold made
      rw [if_pos rfl, ih (by omega), take_succ' hx, List.map_append]
      simp only [hx]
      rfl
  rw [List.length_map, key _ (Nat.le_refl _), List.take_length] at q
  exact q
theorem el_mapTf {α : Type} {vs : List Nat} {zs : List α} (enc : α → PyData) {h : α → PyData} (he : Ev K M te ρ (.tuple (zs.map enc))) (hl : zs.length ≤ 1000) (it : ∀ (x : α), x ∈ zs → ∃ ρ2, TgE K M vs g (wipeS ρ vs) (enc x) ρ2 ∧ Ev K M tel ρ2 (h x)) : EL K M (tLc (iTup K te) g tYes tel vs) ρ (zs.map h) := by
  have q := el_lcT (tt := tYes) (fun _ => true) (fun k => match zs[k]? with | some x => h x | none => .none) he (by rw [List.length_map]; exact hl) fun k x hx => by
    rw [List.getElem?_map] at hx
    cases e : zs[k]? with
    | none => rw [e] at hx; cases hx
    | some z =>
      rw [e] at hx
      cases hx
      obtain ⟨ρ2, h1, h2⟩ := it z (List.mem_of_getElem? e)
      exact item_map h1 h2
  have key : ∀ k, k ≤ zs.length → made (zs.map enc) (fun _ => true) (fun k => match zs[k]? with | some x => h x | none => .none) k = (zs.take k).map h := by
    intro k
    induction k with
    | zero => intro _; rfl
    | succ k ih =>
      intro hk
      have hx : zs[k]? = some zs[k] := List.getElem?_eq_getElem (by omega)
      unfold made
      rw [if_pos rfl, ih (by omega), take_succ' hx, List.map_append]
      simp only [hx]
      rfl
  rw [List.length_map, key _ (Nat.le_refl _), List.take_length] at q
  exact q
end
/-! ### shapes -/
def flatD (d : PyData) : Prop := d.canLay0 = true ∧ d.depth ≤ 30
theorem flat_all : ∀ {l : List PyData}, (∀ d ∈ l, flatD d) → PyData.canLayAll0 l = true ∧ PyData.depthAll l ≤ 30
  | [], _ => ⟨rfl, Nat.zero_le _⟩
  | d :: l, h => by
    obtain ⟨h1, h2⟩ := h d List.mem_cons_self
    obtain ⟨h3, h4⟩ := flat_all (l := l) fun e he => h e (List.mem_cons_of_mem _ he)
    refine ⟨?_, ?_⟩
    · show (d.canLay0 && PyData.canLayAll0 l) = true
      rw [h1, h3]
      rfl
    · show max d.depth (PyData.depthAll l) ≤ 30
      omega
theorem shaped_list {l : List PyData} (h : ∀ d ∈ l, flatD d) : SeqAt.shaped (.list l) = true := by
  obtain ⟨h3, h4⟩ := flat_all h
  show (PyData.canLayAll0 l && decide (PyData.depthAll l + 1 ≤ 64)) = true
  rw [h3, decide_eq_true (by omega)]
  rfl
theorem shaped_tup {l : List PyData} (h : ∀ d ∈ l, flatD d) : SeqAt.shaped (.tuple l) = true := by
  obtain ⟨h3, h4⟩ := flat_all h
  show (PyData.canLayAll0 l && decide (PyData.depthAll l + 1 ≤ 64)) = true
  rw [h3, decide_eq_true (by omega)]
  rfl
/-! ### promises -/
def spF (K : PySem.W.Frag) (R : List PyData → Out → Prop) : Sp := fun vs H Q W => ∃ (F : Hp) (ds : List PyData) (o : Out), Same F H ∧ RpA K F vs ds ∧ R ds o ∧
  (∀ d v F' H', o = .rt d → Step (fun _ => False) F H F' H' → Rp K F' v d → Q v H') ∧ (∀ C dd F' H', o = .ex C → Step (fun _ => False) F H F' H' → W (.ref C) dd H')
theorem spD_of {K : PySem.W.Frag} {R : List PyData → Out → Prop} {dvs : List V} {ds es : List PyData} {d : PyData} (h : R (ds ++ es) (.rt d)) (he : ∀ F, RpA K F dvs es) : SpD K (spF K R) dvs ds d := fun M F H vs Q W s r q =>
  ⟨F, ds ++ es, .rt d, s, r.append (he F), h, fun d' v F' H' e st rv => by cases e; exact q v F' H' st.weak rv, fun _ _ _ _ e => by cases e⟩
theorem spD_of0 {K : PySem.W.Frag} {R : List PyData → Out → Prop} {ds : List PyData} {d : PyData} (h : R ds (.rt d)) : SpD K (spF K R) [] ds d := spD_of (es := []) (by rw [List.append_nil]; exact h) fun _ => .nil
/-- a call of such a def -/
theorem ev_fn {K : PySem.W.Frag} {M : Addr → Prop} {ρ : List Sl} {tA : TA} {W : XK} {R : List PyData → Out → Prop} {ds : List PyData} {d : PyData} (ha : Ag K M tA ρ ds) (h : R ds (.rt d)) : Ev K M (tCall (spF K R) [] W tA) ρ d := ev_call ha (spD_of0 h)
theorem ev_fn1 {K : PySem.W.Frag} {M : Addr → Prop} {ρ : List Sl} {tA : TA} {W : XK} {R : List PyData → Out → Prop} {ds : List PyData} {d : PyData} {i : Int} (ha : Ag K M tA ρ ds) (h : R (ds ++ [.int i]) (.rt d)) : Ev K M (tCall (spF K R) [.int i] W tA) ρ d := ev_call ha (spD_of h fun _ => .cons (.int i) .nil)
/-- a statement i = f(..) of a def that may raise -/
theorem s_setX {K : PySem.W.Frag} {M : Addr → Prop} {W : XK} {ρ : List Sl} {tA : TA} {R : List PyData → Out → Prop} {ds : List PyData} {o : Out} {i : Nat} {Φ : Out → Prop} (ha : Ag K M tA ρ ds) (h : R ds o) (q1 : ∀ d, o = .rt d → Φ (.nx (ρ.set i (.d d)))) (q2 : ∀ C, o = .ex C → Φ (.ex C)) :
    S K M W (tAsg (tCall (spF K R) [] W tA) (gName i)) ρ Φ := fun H0 F0 F H σ D s k1 _ _ _ k5 =>
  ha F H σ s.st.fh s.sl _ fun ds' vs F1 H1 e st r => by
    subst e
    refine ⟨F1, ds', o, st.fh, by rw [List.append_nil]; exact r, h, fun d v F' H' e st' rv => ?_, fun C dd F' H' e st' => ?_⟩
    · exact k1 _ _ F' H' (q1 d e) (((s.step st).step st'.weak).setD i rv)
    · exact k5 C dd F' H' (q2 C e) ((s.st.trans s.m0 st).trans s.m0 st'.weak)
def initS (N : List Str) (ds : List PyData) : List Sl := ds.map .d ++ List.replicate (N.length - ds.length) .u
theorem init_ok {K : PySem.W.Frag} {F H : Hp} {N : List Str} {vs : List V} {ds : List PyData} (s : Same F H) (r : RpA K F vs ds) : SSt K (fun _ => False) H F F H (initS N ds) (L2.start N vs) := by
  have key : ∀ {i : Nat} {t : Sl}, (initS N ds)[i]? = some t → t = .u ∨ ∃ d, t = .d d := fun {i t} e => by
    unfold initS at e
    rcases List.mem_append.mp (List.mem_of_getElem? e) with h | h
    · obtain ⟨d, _, rfl⟩ := List.mem_map.mp h
      exact .inr ⟨d, rfl⟩
    · exact .inl (List.eq_of_mem_replicate h)
  refine ⟨⟨?_, fun i t w e1 e2 => ?_, fun b m => m.elim⟩, .refl s, fun b m => m.elim, fun i t w b e1 _ ow => ?_, fun i j t u v w b e1 _ _ _ ow _ => ?_⟩
  · unfold L2.start initS
    simp only [List.length_append, List.length_map, List.length_replicate, r.length]
  · unfold initS at e1
    unfold L2.start at e2
    by_cases hi : i < ds.length
    · rw [List.getElem?_append_left (by simpa using hi), List.getElem?_map] at e1
      rw [List.getElem?_append_left (by rw [List.length_map, r.length]; exact hi), List.getElem?_map] at e2
      obtain ⟨v, hv, rv⟩ := r.get (List.getElem?_eq_getElem hi)
      rw [List.getElem?_eq_getElem hi] at e1
      rw [hv] at e2
      cases e1
      cases e2
      exact ⟨v, rfl, rv⟩
    · rw [List.getElem?_append_right (by simpa using hi), List.getElem?_replicate] at e1
      split at e1
      · cases e1
        trivial
      · cases e1
  · rcases key e1 with z | ⟨d, z⟩ <;> subst z <;> exact ow.elim
  · rcases key e1 with z | ⟨d, z⟩ <;> subst z <;> exact ow.elim
section
variable {P : Program} {w : World} {K : PySem.W.Frag} {mg : Str → Option Value} {base : Heap}
/-- THE RULE for a def over plain data -/
theorem ok_def {CX : CXT} {x qual : Str} {params : Arguments} {body : List Stmt} {scope : Scope} {dvs : List V} {kws : List (Str × V)} {f : Addr} {fd : FuncData} {N ps : List Str} {k : Nat} {R : List PyData → Out → Prop}
    (F : FunD K x qual params body scope dvs kws f fd) (Sc : FnScope N ps scope) (hl : ∀ ds o, R ds o → ds.length = ps.length ∧ ((∃ r, o = .rt r) ∨ ∃ C, o = .ex C))
    (h : ∀ (cdv : Value) (A : Around) (outer : List Env) (s : Shared) (H : Hp) (W : XK), Room k (A.deeper (envOfC qual scope s.heap.objs.size f cdv)) →
      ∃ t, PSs (cxOf CX P w K mg base N qual scope f cdv A outer s H W) body t ∧ ∀ ds o, R ds o → S K (fun _ => False) W t (initS N ds) (fun o' => o' = o ∨ (o = .rt .none ∧ ∃ ρ, o' = .nx ρ))) :
    FnOk P w K mg base CX (k + 1) f fd ps (spF K R) := by
  refine F.ok Sc (fun vs H Q W hs => ?_) (fun cdv A outer s H vs Q W hr hs => ?_)
  · obtain ⟨Fz, ds, o, _, r, hR, _⟩ := hs
    rw [r.length]
    exact (hl ds o hR).1
  · obtain ⟨t, ht, hS⟩ := h cdv A outer s H W hr
    obtain ⟨Fz, ds, o, sm, r, hR, q1, q2⟩ := hs
    refine ⟨t, ht, hS ds o hR H Fz Fz H _ _ (init_ok sm r) (fun ρ' σ' F' H' e s' => ?_) (fun d v F' H' e st rv => ?_) (fun ρ' σ' F' H' e s' => ?_) (fun ρ' σ' F' H' e s' => ?_) (fun C dd F' H' e st => ?_)⟩
    · rcases e with e | ⟨e, _⟩
      · subst e
        rcases (hl ds _ hR).2 with ⟨_, z⟩ | ⟨_, z⟩ <;> cases z
      · exact q1 .none .non F' H' e s'.st .non
    · rcases e with e | ⟨_, _, e⟩
      · exact q1 d v F' H' e.symm st rv
      · cases e
    · rcases e with e | ⟨_, _, e⟩
      · subst e
        rcases (hl ds _ hR).2 with ⟨_, z⟩ | ⟨_, z⟩ <;> cases z
      · cases e
    · rcases e with e | ⟨_, _, e⟩
      · subst e
        rcases (hl ds _ hR).2 with ⟨_, z⟩ | ⟨_, z⟩ <;> cases z
      · cases e
    · rcases e with e | ⟨_, _, e⟩
      · exact q2 C dd F' H' e.symm st
      · cases e
end
end PD
/-! M1: ratios as core's Rat -/
namespace M
/-! ### gcd by Python's % -/
theorem fmod_lt (a : Int) {b : Int} (h : b ≠ 0) : (a.fmod b).natAbs < b.natAbs := by
  rcases Int.lt_trichotomy b 0 with hb | hb | hb
  · have e : a.fmod b = -((-a).fmod (-b)) := by
      rw [Int.neg_fmod_neg, Int.neg_neg]
    have h1 := Int.fmod_nonneg_of_pos (-a) (show 0 < -b by omega)
    have h2 := Int.fmod_lt_of_pos (-a) (show 0 < -b by omega)
    omega
  · exact absurd hb h
  · have h1 := Int.fmod_nonneg_of_pos a hb
    have h2 := Int.fmod_lt_of_pos a hb
    omega
theorem gcd_fmod (a b : Int) : Int.gcd b (a.fmod b) = Int.gcd a b := by
  have e : a.fmod b = a - b * a.fdiv b := Int.fmod_def a b
  apply Nat.dvd_antisymm
  · apply Int.dvd_gcd
    · have h1 : ((Int.gcd b (a.fmod b) : Nat) : Int) ∣ b := Int.gcd_dvd_left ..
      have h2 : ((Int.gcd b (a.fmod b) : Nat) : Int) ∣ a.fmod b := Int.gcd_dvd_right ..
      have e2 : a.fmod b + b * a.fdiv b = a := by omega
      have h3 := Int.dvd_add h2 (Int.dvd_trans h1 (Int.dvd_mul_right b (a.fdiv b)))
      rw [e2] at h3
      exact h3
    · exact Int.gcd_dvd_left ..
  · apply Int.dvd_gcd
    · exact Int.gcd_dvd_right ..
    · have h1 : ((Int.gcd a b : Nat) : Int) ∣ a := Int.gcd_dvd_left ..
      have h2 : ((Int.gcd a b : Nat) : Int) ∣ b := Int.gcd_dvd_right ..
      rw [e]
      exact Int.dvd_sub h1 (Int.dvd_trans h2 (Int.dvd_mul_right ..))
/-- the divisor that ratio takes -/
def by_ (t b : Int) : Int := if b < 0 then 0 - (Int.gcd t b : Int) else (Int.gcd t b : Int)
theorem by_ne {t b : Int} (h : b ≠ 0) : by_ t b ≠ 0 := by
  have : Int.gcd t b ≠ 0 := fun e => h (Int.gcd_eq_zero_iff.mp e).2
  unfold by_
  split <;> omega
theorem by_abs (t b : Int) : (by_ t b).natAbs = Int.gcd t b := by
  unfold by_
  split <;> omega
theorem by_le {t b : Int} (h : b ≠ 0) : (by_ t b).natAbs ≤ b.natAbs := by
  rw [by_abs]
  exact Nat.le_of_dvd (by omega) (Int.ofNat_dvd_left.mp (Int.gcd_dvd_right ..))
theorem fdiv_dvd {a g : Int} (h : g ∣ a) : a.fdiv g = a / g := Int.fdiv_eq_ediv_of_dvd h
theorem ratio_num (t : Int) {b : Int} (h : b ≠ 0) : t.fdiv (by_ t b) = (Rat.divInt t b).num := by
  rw [Rat.num_divInt, Int.gcd_comm b t]
  have d1 : ((Int.gcd t b : Nat) : Int) ∣ t := Int.gcd_dvd_left ..
  unfold by_
  rcases Int.lt_or_gt_of_ne h with hb | hb
  · rw [if_pos hb, Int.sign_eq_neg_one_of_neg hb, Int.zero_sub, fdiv_dvd ((Int.neg_dvd).mpr d1), Int.ediv_neg]
    rw [Int.neg_mul, Int.one_mul, Int.neg_ediv_of_dvd d1]
  · rw [if_neg (by omega), Int.sign_eq_one_of_pos hb, Int.one_mul, fdiv_dvd d1]
theorem ratio_den (t : Int) {b : Int} (h : b ≠ 0) : b.fdiv (by_ t b) = ((Rat.divInt t b).den : Int) := by
  rw [Rat.den_divInt, if_neg h, Int.gcd_comm b t]
  have d2 : ((Int.gcd t b : Nat) : Int) ∣ b := Int.gcd_dvd_right ..
  unfold by_
  rcases Int.lt_or_gt_of_ne h with hb | hb
  · rw [if_pos hb, Int.zero_sub, fdiv_dvd ((Int.neg_dvd).mpr d2), Int.ediv_neg, ← Int.neg_ediv_of_dvd d2]
    have : -b = (b.natAbs : Int) := by omega
    rw [this]
    rfl
  · rw [if_neg (by omega), fdiv_dvd d2]
    have : b = (b.natAbs : Int) := by omega
    rw [this]
    simp
/-! ### what the functions reckon -/
theorem plus_eq (x y : Rat) : Rat.divInt (x.num * y.den + y.num * x.den) (x.den * y.den) = x + y := by
  rw [Rat.add_def', ← Rat.divInt_ofNat, Int.natCast_mul]
theorem minus_eq (x y : Rat) : Rat.divInt (x.num * y.den - y.num * x.den) (x.den * y.den) = x - y := by
  rw [Rat.sub_def', ← Rat.divInt_ofNat, Int.natCast_mul]
theorem times_eq (x y : Rat) : Rat.divInt (x.num * y.num) (x.den * y.den) = x * y := by
  rw [Rat.mul_def', ← Rat.divInt_ofNat, Int.natCast_mul]
theorem over_eq (x y : Rat) : Rat.divInt (x.num * y.den) (x.den * y.num) = x / y := by
  rw [Rat.div_def, Rat.inv_def, ← Rat.divInt_mul_divInt, Rat.num_divInt_den]
theorem less_eq (x y : Rat) : decide (x.num * y.den < y.num * x.den) = decide (x < y) := by
  rw [decide_eq_decide]
  exact (Rat.lt_iff x y).symm
theorem den_ne (x : Rat) : (x.den : Int) ≠ 0 := by
  have := x.den_nz
  omega
theorem num_ne {x : Rat} (h : x ≠ 0) : x.num ≠ 0 := fun e => h (Rat.num_eq_zero.mp e)
theorem mul_ne {a b : Int} (h : a ≠ 0) (g : b ≠ 0) : a * b ≠ 0 := Int.mul_ne_zero h g
/-! ### small ratios -/
/-- top and bottom below 2 ^ n -/
def Sm (n : Nat) (x : Rat) : Prop := x.num.natAbs < 2 ^ n ∧ x.den < 2 ^ n
theorem Sm.mono {n m : Nat} {x : Rat} (h : Sm n x) (l : n ≤ m) : Sm m x :=
  ⟨Nat.lt_of_lt_of_le h.1 (Nat.pow_le_pow_right (by decide) l), Nat.lt_of_lt_of_le h.2 (Nat.pow_le_pow_right (by decide) l)⟩
theorem mul_lt_pow {a b m n : Nat} (h : a < 2 ^ m) (g : b < 2 ^ n) : a * b < 2 ^ (m + n) := by
  rw [Nat.pow_add]
  exact Nat.mul_lt_mul'' h g
theorem divInt_small {t b : Int} {n : Nat} (h : b ≠ 0) (ht : t.natAbs < 2 ^ n) (hb : b.natAbs < 2 ^ n) : Sm n (Rat.divInt t b) := by
  have g := by_ne (t := t) h
  constructor
  · rw [← ratio_num t h]
    refine Nat.lt_of_le_of_lt ?_ ht
    have d1 : by_ t b ∣ t := by
      have : ((Int.gcd t b : Nat) : Int) ∣ t := Int.gcd_dvd_left ..
      unfold by_
      split
      · rw [Int.zero_sub]; exact (Int.neg_dvd).mpr this
      · exact this
    rw [fdiv_dvd d1]
    exact Int.natAbs_ediv_le_natAbs ..
  · have e := ratio_den t h
    have d2 : by_ t b ∣ b := by
      have : ((Int.gcd t b : Nat) : Int) ∣ b := Int.gcd_dvd_right ..
      unfold by_
      split
      · rw [Int.zero_sub]; exact (Int.neg_dvd).mpr this
      · exact this
    rw [fdiv_dvd d2] at e
    have : (Rat.divInt t b).den = (b / by_ t b).natAbs := by omega
    rw [this]
    exact Nat.lt_of_le_of_lt (Int.natAbs_ediv_le_natAbs ..) hb
theorem add_lt_pow {a b m : Nat} (h : a < 2 ^ m) (g : b < 2 ^ m) : a + b < 2 ^ (m + 1) := by
  rw [Nat.pow_succ]
  omega
theorem Sm.add {m n : Nat} {x y : Rat} (h : Sm m x) (g : Sm n y) : Sm (m + n + 1) (x + y) := by
  rw [← plus_eq]
  refine divInt_small (mul_ne (den_ne x) (den_ne y)) ?_ ?_
  · refine Nat.lt_of_le_of_lt (Int.natAbs_add_le _ _) (add_lt_pow ?_ ?_)
    · rw [Int.natAbs_mul]; exact mul_lt_pow h.1 g.2
    · rw [Int.natAbs_mul, Nat.add_comm m n]; exact mul_lt_pow g.1 h.2
  · rw [Int.natAbs_mul]
    exact Nat.lt_of_lt_of_le (mul_lt_pow h.2 g.2) (Nat.pow_le_pow_right (by decide) (by omega))
theorem Sm.sub {m n : Nat} {x y : Rat} (h : Sm m x) (g : Sm n y) : Sm (m + n + 1) (x - y) := by
  rw [← minus_eq]
  refine divInt_small (mul_ne (den_ne x) (den_ne y)) ?_ ?_
  · refine Nat.lt_of_le_of_lt (Int.natAbs_sub_le _ _) (add_lt_pow ?_ ?_)
    · rw [Int.natAbs_mul]; exact mul_lt_pow h.1 g.2
    · rw [Int.natAbs_mul, Nat.add_comm m n]; exact mul_lt_pow g.1 h.2
  · rw [Int.natAbs_mul]
    exact Nat.lt_of_lt_of_le (mul_lt_pow h.2 g.2) (Nat.pow_le_pow_right (by decide) (by omega))
theorem Sm.mul {m n : Nat} {x y : Rat} (h : Sm m x) (g : Sm n y) : Sm (m + n) (x * y) := by
  rw [← times_eq]
  refine divInt_small (mul_ne (den_ne x) (den_ne y)) ?_ ?_
  · rw [Int.natAbs_mul]; exact mul_lt_pow h.1 g.1
  · rw [Int.natAbs_mul]; exact mul_lt_pow h.2 g.2
theorem Sm.div {m n : Nat} {x y : Rat} (h : Sm m x) (g : Sm n y) (hy : y ≠ 0) : Sm (m + n) (x / y) := by
  rw [← over_eq]
  refine divInt_small (mul_ne (den_ne x) (num_ne hy)) ?_ ?_
  · rw [Int.natAbs_mul]; exact mul_lt_pow h.1 g.2
  · rw [Int.natAbs_mul]; exact mul_lt_pow h.2 g.1
theorem Sm.int {n : Nat} {i : Int} (h : i.natAbs < 2 ^ n) (hn : 0 < n) : Sm n (i : Rat) := by
  refine ⟨by simpa using h, ?_⟩
  have : ((i : Rat)).den = 1 := by simp
  rw [this]
  exact Nat.one_lt_pow (by omega) (by decide)
theorem div_one_eq (i : Int) : Rat.divInt i 1 = (i : Rat) := by
  rw [Rat.divInt_eq_div]
  show (i : Rat) / ((1 : Int) : Rat) = i
  have : ((1 : Int) : Rat) = 1 := rfl
  rw [this]
  grind
end M
/-! D1: the text by places, data as the program has it, defs as they are called -/
namespace K57
open PySem PySem.Spec PyProof.Rows L2 PD M
def top (i : Nat) : Stmt := PySem.Challenge.pw_clackrow_k57_whole_weights_seen_in_runs.main.body.getD i (.Pass ⟨0, 0, 0, 0⟩)
/-! ### calls of the text's own defs -/
/-- the def x of the module, called with some of its arguments (dvs: what its defaults fill in), keeps sp -/
structure Cal (P : Program) (w : World) (K : PySem.W.Frag) (mg : Str → Option Value) (base : Heap) (CX : CXT) (k : Nat) (x : Str) (ps : List Str) (dvs : List V) (sp : Sp) : Prop where
  ex : ∃ (f : Addr) (fd : FuncData) (ds : List Value), mg x = some (.ref f) ∧ PySem.W.keepIn K (.ref f) = true ∧ Binds K fd ps ds ∧ Vals dvs ds ∧ FnOk P w K mg base CX k f fd ps sp
theorem pe_cal {X : Cx} {CX : CXT} {k : Nat} {x : Str} {ps : List Str} {dvs : List V} {sp : Sp} {W : XK} {e : Expr} {es : List Expr} {t : TA} {p pos : Pos} (C : Cal X.prog X.w X.K X.mg X.base CX k x ps dvs sp) (hr : Room k X.A) (hx : Passes CX X W) (ha : PA X (e :: es) t)
    (hg : Gl X x := by rfl) (hd : (x == ("__debug__" : Str)) = false := by decide) (he : starEach (e :: es) X.env = (false, eval e X.env) :: starEach es X.env := by rfl) (hpl : (backTo pos (starEach es X.env)).any (·.1) = false := by rfl) :
    PE X (.Call (.Name x p) (e :: es) [] pos) (tCall sp dvs W t) := by
  obtain ⟨f, fd, ds, hm, hk, hb, hv, hF⟩ := C.ex
  exact pe_call hF hr hg hm hk hb hv hx ha (hdb := hd) (he := he) (hpl := hpl)
theorem pe_gint {X : Cx} {x : Str} {i : Int} {pos : Pos} (h : ∃ t, X.mg x = some (.int i t)) (hg : Gl X x := by rfl) (hd : (x == ("__debug__" : Str)) = false := by decide) : PE X (.Name x pos) (tC (.int i)) := by
  obtain ⟨t, h⟩ := h
  exact pe_glob hg h ⟨t, rfl⟩ hd
theorem pe_gtup {X : Cx} {x : Str} {a : Addr} {pos : Pos} (h : X.mg x = some (.ref a)) (hg : Gl X x := by rfl) (hd : (x == ("__debug__" : Str)) = false := by decide) : PE X (.Name x pos) (tC (.ref a)) := pe_glob hg h rfl hd
theorem ix_tupK {X : Cx} {K : PySem.W.Frag} (h : X.K = K) : IxR X (rIxT K) := by
  subst h
  exact ix_tup
theorem ix_listK {X : Cx} {K : PySem.W.Frag} (h : X.K = K) : IxR X (rIxL K) := by
  subst h
  exact ix_list
theorem hu65 {k : Nat} {A : Around} (hr : Room k A) : A.units + 65 < cLine := by
  have := hr.un
  omega
/-- what the module's names stand for -/
structure Txt (K : PySem.W.Frag) (mg : Str → Option Value) (aN aO : Addr) : Prop where
  cPLACE : ∃ t, mg "PLACE" = some (.int 0 t)
  cSPEED : ∃ t, mg "SPEED" = some (.int 1 t)
  cWEIGHT : ∃ t, mg "WEIGHT" = some (.int 2 t)
  cLOW : ∃ t, mg "LOW" = some (.int 0 t)
  cHIGH : ∃ t, mg "HIGH" = some (.int 1 t)
  cNOUGHT : mg "NOUGHT" = some (.ref aN)
  cONE : mg "ONE" = some (.ref aO)
  vN : ∀ H : Hp, SqT K H aN [.int 0, .int 1]
  vO : ∀ H : Hp, SqT K H aO [.int 1, .int 1]
  f_len : mg "len" = none
  f_abs : mg "abs" = none
  f_all : mg "all" = none
  f_any : mg "any" = none
  f_max : mg "max" = none
  f_min : mg "min" = none
  f_isinstance : mg "isinstance" = none
  f_tuple : mg "tuple" = none
  f_list : mg "list" = none
  f_int : mg "int" = none
  f_bool : mg "bool" = none
  f_range : mg "range" = none
  f_enumerate : mg "enumerate" = none
  f_zip : mg "zip" = none
/-! ### ratios as tuples -/
def encR (q : Rat) : PyData := .tuple [.int q.num, .int (q.den : Int)]
theorem eqv_int (a b : Int) : PyData.eqv (.int a) (.int b) = decide (a = b) := by
  show (a == b) = decide (a = b)
  by_cases h : a = b
  · subst h; simp
  · rw [decide_eq_false h]; simpa using h
theorem encR_eqv (x y : Rat) : PyData.eqv (encR x) (encR y) = decide (x = y) := by
  show (PyData.eqv (.int x.num) (.int y.num) && (PyData.eqv (.int (x.den : Int)) (.int (y.den : Int)) && true)) = decide (x = y)
  rw [eqv_int, eqv_int, Bool.and_true]
  by_cases h : x = y
  · subst h; simp
  · rw [decide_eq_false h]
    rw [Bool.and_eq_false_iff]
    by_cases h1 : x.num = y.num
    · right
      exact decide_eq_false fun h2 => h (Rat.ext h1 (by omega))
    · left
      exact decide_eq_false h1
theorem encR_inj {x y : Rat} (h : encR x = encR y) : x = y := by
  have e : PyData.eqv (encR x) (encR y) = true := by
    rw [← h, encR_eqv]
    simp
  rw [encR_eqv] at e
  exact of_decide_eq_true e
theorem encR_shaped (x : Rat) : SeqAt.shaped (encR x) = true := rfl
/-- numbers that the program's * and // take -/
abbrev Ok (x : Rat) : Prop := Sm 4400 x
theorem log_lt {n : Int} {k : Nat} (h : n.natAbs < 2 ^ k) (hk : 0 < k) : n.natAbs.log2 < k := PySem.Flt.log2_lt_of hk h
theorem cmul {a b : Int} {m n : Nat} (ha : a.natAbs < 2 ^ m) (hb : b.natAbs < 2 ^ n) (hm : 0 < m := by decide) (hn : 0 < n := by decide) (h : m + n ≤ 1000000 := by decide) : CMulW a b := wide_mul ha hb hm hn h
theorem Ok.cnd {x y : Rat} (h : Ok x) (g : Ok y) : CMulW x.num y.den := cmul h.1 g.2
theorem Ok.cdn {x y : Rat} (h : Ok x) (g : Ok y) : CMulW x.den y.num := cmul h.2 g.1
theorem Ok.cdd {x y : Rat} (h : Ok x) (g : Ok y) : CMulW x.den y.den := cmul h.2 g.2
theorem Ok.cnn {x y : Rat} (h : Ok x) (g : Ok y) : CMulW x.num y.num := cmul h.1 g.1
theorem lt_8999 {a : Nat} {m : Nat} (h : a < 2 ^ m) (hm : m ≤ 8999) : a < 2 ^ 8999 := Nat.lt_of_lt_of_le h (Nat.pow_le_pow_right (by decide) hm)
theorem Ok.ldd {x y : Rat} (h : Ok x) (g : Ok y) : ((x.den : Int) * y.den).natAbs < 2 ^ 8999 := by
  rw [Int.natAbs_mul]
  exact lt_8999 (mul_lt_pow h.2 g.2) (by decide)
theorem Ok.ldn {x y : Rat} (h : Ok x) (g : Ok y) : ((x.den : Int) * y.num).natAbs < 2 ^ 8999 := by
  rw [Int.natAbs_mul]
  exact lt_8999 (mul_lt_pow h.2 g.1) (by decide)
/-! ### what the ratio functions do -/
def R_is_whole : List PyData → Out → Prop := fun ds o => ∃ n : Int, ds = [.int n] ∧ o = .rt (.bool true)
def R_divisor_of : List PyData → Out → Prop := fun ds o => ∃ a b : Int, ds = [.int a, .int b] ∧ o = .rt (.int (Int.gcd a b : Nat))
def R_ratio : List PyData → Out → Prop := fun ds o => ∃ a b : Int, ds = [.int a, .int b] ∧ b ≠ 0 ∧ b.natAbs < 2 ^ 8999 ∧ o = .rt (encR (Rat.divInt a b))
def R_plus : List PyData → Out → Prop := fun ds o => ∃ x y : Rat, ds = [encR x, encR y] ∧ Ok x ∧ Ok y ∧ o = .rt (encR (x + y))
def R_minus : List PyData → Out → Prop := fun ds o => ∃ x y : Rat, ds = [encR x, encR y] ∧ Ok x ∧ Ok y ∧ o = .rt (encR (x - y))
def R_times : List PyData → Out → Prop := fun ds o => ∃ x y : Rat, ds = [encR x, encR y] ∧ Ok x ∧ Ok y ∧ o = .rt (encR (x * y))
def R_over : List PyData → Out → Prop := fun ds o => ∃ x y : Rat, ds = [encR x, encR y] ∧ Ok x ∧ Ok y ∧ y ≠ 0 ∧ o = .rt (encR (x / y))
def R_less : List PyData → Out → Prop := fun ds o => ∃ x y : Rat, ds = [encR x, encR y] ∧ Ok x ∧ Ok y ∧ o = .rt (.bool (decide (x < y)))
section
variable {K : PySem.W.Frag} {M : Addr → Prop} {ρ : List Sl} {ta tb : TE} {W : XK} {x y : Rat}
theorem ev_plus (a : Ev K M ta ρ (encR x)) (b : Ev K M tb ρ (encR y)) (hx : Ok x) (hy : Ok y) : Ev K M (tCall (spF K R_plus) [] W (tCons ta (tCons tb tNil))) ρ (encR (x + y)) := ev_fn (ag_cons a (ag_cons b ag_nil)) ⟨x, y, rfl, hx, hy, rfl⟩
theorem ev_minus (a : Ev K M ta ρ (encR x)) (b : Ev K M tb ρ (encR y)) (hx : Ok x) (hy : Ok y) : Ev K M (tCall (spF K R_minus) [] W (tCons ta (tCons tb tNil))) ρ (encR (x - y)) := ev_fn (ag_cons a (ag_cons b ag_nil)) ⟨x, y, rfl, hx, hy, rfl⟩
theorem ev_times (a : Ev K M ta ρ (encR x)) (b : Ev K M tb ρ (encR y)) (hx : Ok x) (hy : Ok y) : Ev K M (tCall (spF K R_times) [] W (tCons ta (tCons tb tNil))) ρ (encR (x * y)) := ev_fn (ag_cons a (ag_cons b ag_nil)) ⟨x, y, rfl, hx, hy, rfl⟩
theorem ev_over (a : Ev K M ta ρ (encR x)) (b : Ev K M tb ρ (encR y)) (hx : Ok x) (hy : Ok y) (h0 : y ≠ 0) : Ev K M (tCall (spF K R_over) [] W (tCons ta (tCons tb tNil))) ρ (encR (x / y)) := ev_fn (ag_cons a (ag_cons b ag_nil)) ⟨x, y, rfl, hx, hy, h0, rfl⟩
theorem ev_less (a : Ev K M ta ρ (encR x)) (b : Ev K M tb ρ (encR y)) (hx : Ok x) (hy : Ok y) : Ev K M (tCall (spF K R_less) [] W (tCons ta (tCons tb tNil))) ρ (.bool (decide (x < y))) := ev_fn (ag_cons a (ag_cons b ag_nil)) ⟨x, y, rfl, hx, hy, rfl⟩
theorem ev_ratio {a b : Int} (ha : Ev K M ta ρ (.int a)) (hb : Ev K M tb ρ (.int b)) (h0 : b ≠ 0) (hl : b.natAbs < 2 ^ 8999) : Ev K M (tCall (spF K R_ratio) [] W (tCons ta (tCons tb tNil))) ρ (encR (Rat.divInt a b)) := ev_fn (ag_cons ha (ag_cons hb ag_nil)) ⟨a, b, rfl, h0, hl, rfl⟩
theorem ev_ratio1 {a : Int} (ha : Ev K M ta ρ (.int a)) : Ev K M (tCall (spF K R_ratio) [.int 1] W (tCons ta tNil)) ρ (encR (a : Rat)) := by
  rw [← div_one_eq]
  exact ev_fn1 (ag_cons ha ag_nil) ⟨a, 1, rfl, by decide, lt_8999 (m := 1) (by decide) (by decide), rfl⟩
/-- x[0], x[1] of a ratio -/
theorem ev_num (a : Ev K M ta ρ (encR x)) : Ev K M (tOp (rIxT K) ta (tC (.int 0))) ρ (.int x.num) := ev_op a ev_int (od_ixT rfl)
theorem ev_den (a : Ev K M ta ρ (encR x)) : Ev K M (tOp (rIxT K) ta (tC (.int 1))) ρ (.int x.den) := ev_op a ev_int (od_ixT rfl)
theorem ev_add {a b : Int} (ha : Ev K M ta ρ (.int a)) (hb : Ev K M tb ρ (.int b)) : Ev K M (tOp (rI0 fun i j => .int (i + j)) ta tb) ρ (.int (a + b)) := ev_op ha hb od_add
theorem ev_sub {a b : Int} (ha : Ev K M ta ρ (.int a)) (hb : Ev K M tb ρ (.int b)) : Ev K M (tOp (rI0 fun i j => .int (i - j)) ta tb) ρ (.int (a - b)) := ev_op ha hb od_sub
theorem ev_mul {a b : Int} (ha : Ev K M ta ρ (.int a)) (hb : Ev K M tb ρ (.int b)) (h : CMulW a b) : Ev K M (tOp (rI CMulW fun i j => .int (i * j)) ta tb) ρ (.int (a * b)) := ev_op ha hb (od_mulW h)
end
theorem atI_cons0 {α : Type} (x : α) (l : List α) : atI (x :: l) 0 = some x := atI_nat (j := 0) rfl
end K57
/-! F1: the ratio functions -/
namespace K57
open PySem PySem.Spec PyProof.Rows L2 PD M
section
variable {P : Program} {w : World} {K : PySem.W.Frag} {mg : Str → Option Value} {base : Heap}
theorem ev_isInt {M : Addr → Prop} {ρ : List Sl} {i : Nat} {n : Int} {b : Bool} {t : String} (e : ρ[i]? = some (.d (.int n))) (h : kitB "int" t = some b) : Ev K M (tCB (rIsi K) (tCons (tVar i) (tCons (tC (.ty t)) tNil))) ρ (.bool b) := fun F H σ s o Q q => by
  obtain ⟨v, e1, r⟩ := o.var e
  rw [r.int_] at e1
  exact ⟨_, e1, _, _, _, _, b, rfl, .ty t, .base (.int n), kit_ty h, q _ _ F H rfl (.refl s) (.bl b)⟩
theorem sc_is_whole : FnScope ["thing"] ["thing"] (defScope (top 6)) := ⟨rfl, rfl, rfl, by decide +kernel, rfl, by decide +kernel, by decide +kernel⟩
theorem ok_is_whole {f aN aO : Addr} {fd : FuncData} (T : Txt K mg aN aO) (F : FunD K "is_whole" "is_whole" (defArgs (top 6)) (defBody (top 6)) (defScope (top 6)) [] [] f fd) : FnOk P w K mg base CX0 1 f fd ["thing"] (spF K R_is_whole) := by
  refine ok_def F sc_is_whole (fun ds o h => ?_) (fun cdv A outer s H W hr => ⟨_, pss_one (ps_ret (pe_and (pe_callB call_isi (by rfl) T.f_isinstance (by decide +kernel) (pa_cons (pv 0) (pa_cons (pe_bltn (v := .ty "int") (by rfl) T.f_int (by decide +kernel) rfl) pa_nil)))
    (pe_one (pe_not (pe_callB call_isi (by rfl) T.f_isinstance (by decide +kernel) (pa_cons (pv 0) (pa_cons (pe_bltn (v := .ty "bool") (by rfl) T.f_bool (by decide +kernel) rfl) pa_nil))))))), fun ds o h => ?_⟩)
  · obtain ⟨n, rfl, rfl⟩ := h
    exact ⟨rfl, .inl ⟨_, rfl⟩⟩
  · obtain ⟨n, rfl, rfl⟩ := h
    exact s_ret (ev_and (ev_isInt rfl (b := true) (by decide +kernel)) fun _ => ev_not (ev_isInt rfl (b := false) (by decide +kernel))) (.inl rfl)
theorem sc_divisor_of : FnScope ["one", "other"] ["one", "other"] (defScope (top 7)) := ⟨rfl, rfl, rfl, by decide +kernel, rfl, by decide +kernel, by decide +kernel⟩
theorem ok_divisor_of {f aN aO : Addr} {fd : FuncData} (T : Txt K mg aN aO)    (F : FunD K "divisor_of" "divisor_of" (defArgs (top 7)) (defBody (top 7)) (defScope (top 7)) [] [] f fd) : FnOk P w K mg base CX0 1 f fd ["one", "other"] (spF K R_divisor_of) := by
  refine ok_def F sc_divisor_of (fun ds o h => ?_) (fun cdv A outer s H W hr => ⟨_, (pss_cons (ps_while (passes_of rfl) (pt_cmpR op_ne (pv 1) pe_int (nomark _)) (pss_one (ps_par (i := 0) (j := 1) rfl sc_divisor_of.nd rfl rfl (by decide) rfl rfl (pa_cons (pv 1) (pa_cons (pe_op op_modN (pv 0) (pv 1)) pa_nil)) (by rfl))))
      (pss_one (ps_ret (pe_callB call_abs (by rfl) T.f_abs (by decide +kernel) (pa_cons (pv 0) pa_nil))))), fun ds o h => ?_⟩)
  · obtain ⟨a, b, rfl, rfl⟩ := h
    exact ⟨rfl, .inl ⟨_, rfl⟩⟩
  · obtain ⟨a, b, rfl, rfl⟩ := h
    refine s_seq (s_while (fun m ρ => ∃ x y : Int, ρ = [.d (.int x), .d (.int y)] ∧ Int.gcd x y = Int.gcd a b ∧ m = y.natAbs) (m0 := b.natAbs) ⟨a, b, rfl, rfl, rfl⟩ ?_)
    rintro m ρ ⟨x, y, rfl, hg, rfl⟩
    refine ⟨_, te_test (ev_op (ev_var rfl) ev_int od_neI), fun h => ?_, fun h => ?_⟩
    · have hy : y ≠ 0 := by simpa using h
      refine s_par (ag_cons (ev_var rfl) (ag_cons (ev_op (ev_var rfl) (ev_var rfl) (od_mod hy)) ag_nil)) ?_
      exact ⟨_, fmod_lt x hy, y, x.fmod y, rfl, by rw [gcd_fmod, hg], rfl⟩
    · have hy : y = 0 := by simpa using h
      subst hy
      refine s_ret (ev_cb (ag_cons (ev_var rfl) ag_nil) cb_abs) (.inl ?_)
      rw [← hg, Int.gcd_zero_right]
      congr 2
      split <;> omega
theorem sc_ratio : FnScope ["top", "bottom", "by"] ["top", "bottom"] (defScope (top 8)) := ⟨rfl, rfl, rfl, by decide +kernel, rfl, by decide +kernel, by decide +kernel⟩
theorem ok_ratio {f aN aO : Addr} {fd : FuncData} (T : Txt K mg aN aO)  (C_divisor_of : Cal P w K mg base CX0 1 "divisor_of" ["one", "other"] [] (spF K R_divisor_of)) (C_is_whole : Cal P w K mg base CX0 1 "is_whole" ["thing"] [] (spF K R_is_whole))  (F : FunD K "ratio" "ratio" (defArgs (top 8)) (defBody (top 8)) (defScope (top 8)) [.int 1] [] f fd) : FnOk P w K mg base CX0 2 f fd ["top", "bottom"] (spF K R_ratio) := by
  refine ok_def F sc_ratio (fun ds o h => ?_) (fun cdv A outer s H W hr => ⟨_, (pss_cons (ps_if (PW.pt (pw_or (pt_not (pt_val (pe_cal C_is_whole (hr.mono (by decide)) pass0 (pa_cons (pv 0) pa_nil)))) (pw_or (pt_not (pt_val (pe_cal C_is_whole (hr.mono (by decide)) pass0 (pa_cons (pv 1) pa_nil)))) (pw_or1 (pt_cmpR op_eq (pv 1) pe_int (nomark _)))))) (pss_one ps_never) pss_nil)
      (pss_cons (ps_set (i := 2) sc_ratio.nd rfl (Or.inl rfl) (pe_cal C_divisor_of (hr.mono (by decide)) pass0 (pa_cons (pv 0) (pa_cons (pv 1) pa_nil))))
      (pss_cons (ps_if (pt_cmpR op_lt (pv 1) pe_int (nomark _)) (pss_one (ps_set (i := 2) sc_ratio.nd rfl (Or.inl rfl) (pe_op op_sub pe_int (pv 2)))) pss_nil)
      (pss_one (ps_ret (pe_tup (pa_cons (pe_op op_fdivZ (pv 0) (pv 2)) (pa_cons (pe_op op_fdivZ (pv 1) (pv 2)) pa_nil)))))))), fun ds o h => ?_⟩)
  · obtain ⟨a, b, rfl, _, _, rfl⟩ := h
    exact ⟨rfl, .inl ⟨_, rfl⟩⟩
  · obtain ⟨a, b, rfl, h0, hb, rfl⟩ := h
    have hby : (by_ a b).natAbs < 2 ^ 8999 := Nat.lt_of_le_of_lt (by_le h0) hb
    have hz : CDivZ a (by_ a b) := ⟨by_ne h0, Nat.lt_trans (log_lt hby (by decide)) (by decide)⟩
    refine s_seq (s_ifF (te_or (c := false) (e := false) (te_not (c := true) (te_val (ev_fn (ag_cons (ev_var rfl) ag_nil) ⟨a, rfl, rfl⟩))) fun _ => te_or (c := false) (e := false) (te_not (c := true) (te_val (ev_fn (ag_cons (ev_var rfl) ag_nil) ⟨b, rfl, rfl⟩))) fun _ => (te_test (ev_op (ev_var rfl) ev_int od_eqI)).eq (by simpa using h0)) (s_next ?_))
    refine s_seq (s_set (ev_fn (ag_cons (ev_var rfl) (ag_cons (ev_var rfl) ag_nil)) ⟨a, b, rfl, rfl⟩) ?_)
    refine s_seq ((s_if (te_test (ev_op (ev_var rfl) ev_int od_lt)) (fun e => s_set (ev_op ev_int (ev_var rfl) od_sub) (?_ : thenS _ _ _)) fun e => s_next ?_))
    · have hb0 : b < 0 := of_decide_eq_true e
      have e1 : by_ a b = 0 - (Int.gcd a b : Int) := if_pos hb0
      refine s_ret (ev_tup (ag_cons (ev_op (ev_var rfl) (ev_var rfl) (od_fdiv (by rw [← e1]; exact hz))) (ag_cons (ev_op (ev_var rfl) (ev_var rfl) (od_fdiv (by rw [← e1]; exact hz))) ag_nil))) (.inl ?_)
      rw [← e1, ratio_num a h0, ratio_den a h0]
      rfl
    · have hb0 : ¬ b < 0 := of_decide_eq_false e
      have e1 : by_ a b = (Int.gcd a b : Int) := if_neg hb0
      refine s_ret (ev_tup (ag_cons (ev_op (ev_var rfl) (ev_var rfl) (od_fdiv (by rw [← e1]; exact hz))) (ag_cons (ev_op (ev_var rfl) (ev_var rfl) (od_fdiv (by rw [← e1]; exact hz))) ag_nil))) (.inl ?_)
      rw [← e1, ratio_num a h0, ratio_den a h0]
      rfl
theorem sc_plus : FnScope ["one", "other"] ["one", "other"] (defScope (top 9)) := ⟨rfl, rfl, rfl, by decide +kernel, rfl, by decide +kernel, by decide +kernel⟩
theorem ok_plus {f aN aO : Addr} {fd : FuncData} (T : Txt K mg aN aO)  (C_ratio : Cal P w K mg base CX0 2 "ratio" ["top", "bottom"] [] (spF K R_ratio))  (F : FunD K "plus" "plus" (defArgs (top 9)) (defBody (top 9)) (defScope (top 9)) [] [] f fd) : FnOk P w K mg base CX0 3 f fd ["one", "other"] (spF K R_plus) := by
  refine ok_def F sc_plus (fun ds o h => ?_) (fun cdv A outer s H W hr => ⟨_, (pss_one (ps_ret (pe_cal C_ratio (hr.mono (by decide)) pass0 (pa_cons (pe_op op_add (pe_op op_mulW (pe_ix ix_tup (pv 0) pe_int (fun _ _ => rfl)) (pe_ix ix_tup (pv 1) pe_int (fun _ _ => rfl))) (pe_op op_mulW (pe_ix ix_tup (pv 1) pe_int (fun _ _ => rfl)) (pe_ix ix_tup (pv 0) pe_int (fun _ _ => rfl)))) (pa_cons (pe_op op_mulW (pe_ix ix_tup (pv 0) pe_int (fun _ _ => rfl)) (pe_ix ix_tup (pv 1) pe_int (fun _ _ => rfl))) pa_nil))))), fun ds o h => ?_⟩)
  · obtain ⟨x, y, rfl, _, _, rfl⟩ := h
    exact ⟨rfl, .inl ⟨_, rfl⟩⟩
  · obtain ⟨x, y, rfl, hx, hy, rfl⟩ := h
    refine s_ret ((ev_ratio (ev_add (ev_mul (ev_num (ev_var rfl)) (ev_den (ev_var rfl)) (hx.cnd hy)) (ev_mul (ev_num (ev_var rfl)) (ev_den (ev_var rfl)) (hy.cnd hx))) (ev_mul (ev_den (ev_var rfl)) (ev_den (ev_var rfl)) (hx.cdd hy)) (mul_ne (den_ne x) (den_ne y)) (hx.ldd hy)).eq (by rw [plus_eq])) (.inl rfl)
theorem sc_minus : FnScope ["one", "other"] ["one", "other"] (defScope (top 10)) := ⟨rfl, rfl, rfl, by decide +kernel, rfl, by decide +kernel, by decide +kernel⟩
theorem ok_minus {f aN aO : Addr} {fd : FuncData} (T : Txt K mg aN aO)  (C_ratio : Cal P w K mg base CX0 2 "ratio" ["top", "bottom"] [] (spF K R_ratio))  (F : FunD K "minus" "minus" (defArgs (top 10)) (defBody (top 10)) (defScope (top 10)) [] [] f fd) : FnOk P w K mg base CX0 3 f fd ["one", "other"] (spF K R_minus) := by
  refine ok_def F sc_minus (fun ds o h => ?_) (fun cdv A outer s H W hr => ⟨_, (pss_one (ps_ret (pe_cal C_ratio (hr.mono (by decide)) pass0 (pa_cons (pe_op op_sub (pe_op op_mulW (pe_ix ix_tup (pv 0) pe_int (fun _ _ => rfl)) (pe_ix ix_tup (pv 1) pe_int (fun _ _ => rfl))) (pe_op op_mulW (pe_ix ix_tup (pv 1) pe_int (fun _ _ => rfl)) (pe_ix ix_tup (pv 0) pe_int (fun _ _ => rfl)))) (pa_cons (pe_op op_mulW (pe_ix ix_tup (pv 0) pe_int (fun _ _ => rfl)) (pe_ix ix_tup (pv 1) pe_int (fun _ _ => rfl))) pa_nil))))), fun ds o h => ?_⟩)
  · obtain ⟨x, y, rfl, _, _, rfl⟩ := h
    exact ⟨rfl, .inl ⟨_, rfl⟩⟩
  · obtain ⟨x, y, rfl, hx, hy, rfl⟩ := h
    refine s_ret ((ev_ratio (ev_sub (ev_mul (ev_num (ev_var rfl)) (ev_den (ev_var rfl)) (hx.cnd hy)) (ev_mul (ev_num (ev_var rfl)) (ev_den (ev_var rfl)) (hy.cnd hx))) (ev_mul (ev_den (ev_var rfl)) (ev_den (ev_var rfl)) (hx.cdd hy)) (mul_ne (den_ne x) (den_ne y)) (hx.ldd hy)).eq (by rw [minus_eq])) (.inl rfl)
theorem sc_times : FnScope ["one", "other"] ["one", "other"] (defScope (top 11)) := ⟨rfl, rfl, rfl, by decide +kernel, rfl, by decide +kernel, by decide +kernel⟩
theorem ok_times {f aN aO : Addr} {fd : FuncData} (T : Txt K mg aN aO)  (C_ratio : Cal P w K mg base CX0 2 "ratio" ["top", "bottom"] [] (spF K R_ratio))  (F : FunD K "times" "times" (defArgs (top 11)) (defBody (top 11)) (defScope (top 11)) [] [] f fd) : FnOk P w K mg base CX0 3 f fd ["one", "other"] (spF K R_times) := by
  refine ok_def F sc_times (fun ds o h => ?_) (fun cdv A outer s H W hr => ⟨_, (pss_one (ps_ret (pe_cal C_ratio (hr.mono (by decide)) pass0 (pa_cons (pe_op op_mulW (pe_ix ix_tup (pv 0) pe_int (fun _ _ => rfl)) (pe_ix ix_tup (pv 1) pe_int (fun _ _ => rfl))) (pa_cons (pe_op op_mulW (pe_ix ix_tup (pv 0) pe_int (fun _ _ => rfl)) (pe_ix ix_tup (pv 1) pe_int (fun _ _ => rfl))) pa_nil))))), fun ds o h => ?_⟩)
  · obtain ⟨x, y, rfl, _, _, rfl⟩ := h
    exact ⟨rfl, .inl ⟨_, rfl⟩⟩
  · obtain ⟨x, y, rfl, hx, hy, rfl⟩ := h
    refine s_ret ((ev_ratio (ev_mul (ev_num (ev_var rfl)) (ev_num (ev_var rfl)) (hx.cnn hy)) (ev_mul (ev_den (ev_var rfl)) (ev_den (ev_var rfl)) (hx.cdd hy)) (mul_ne (den_ne x) (den_ne y)) (hx.ldd hy)).eq (by rw [times_eq])) (.inl rfl)
theorem sc_over : FnScope ["one", "other"] ["one", "other"] (defScope (top 12)) := ⟨rfl, rfl, rfl, by decide +kernel, rfl, by decide +kernel, by decide +kernel⟩
theorem ok_over {f aN aO : Addr} {fd : FuncData} (T : Txt K mg aN aO)  (C_ratio : Cal P w K mg base CX0 2 "ratio" ["top", "bottom"] [] (spF K R_ratio))  (F : FunD K "over" "over" (defArgs (top 12)) (defBody (top 12)) (defScope (top 12)) [] [] f fd) : FnOk P w K mg base CX0 3 f fd ["one", "other"] (spF K R_over) := by
  refine ok_def F sc_over (fun ds o h => ?_) (fun cdv A outer s H W hr => ⟨_, (pss_one (ps_ret (pe_cal C_ratio (hr.mono (by decide)) pass0 (pa_cons (pe_op op_mulW (pe_ix ix_tup (pv 0) pe_int (fun _ _ => rfl)) (pe_ix ix_tup (pv 1) pe_int (fun _ _ => rfl))) (pa_cons (pe_op op_mulW (pe_ix ix_tup (pv 0) pe_int (fun _ _ => rfl)) (pe_ix ix_tup (pv 1) pe_int (fun _ _ => rfl))) pa_nil))))), fun ds o h => ?_⟩)
  · obtain ⟨x, y, rfl, _, _, _, rfl⟩ := h
    exact ⟨rfl, .inl ⟨_, rfl⟩⟩
  · obtain ⟨x, y, rfl, hx, hy, h0, rfl⟩ := h
    refine s_ret ((ev_ratio (ev_mul (ev_num (ev_var rfl)) (ev_den (ev_var rfl)) (hx.cnd hy)) (ev_mul (ev_den (ev_var rfl)) (ev_num (ev_var rfl)) (hx.cdn hy)) (mul_ne (den_ne x) (num_ne h0)) (hx.ldn hy)).eq (by rw [over_eq])) (.inl rfl)
theorem sc_less : FnScope ["one", "other"] ["one", "other"] (defScope (top 13)) := ⟨rfl, rfl, rfl, by decide +kernel, rfl, by decide +kernel, by decide +kernel⟩
theorem ok_less {f aN aO : Addr} {fd : FuncData} (T : Txt K mg aN aO)    (F : FunD K "less" "less" (defArgs (top 13)) (defBody (top 13)) (defScope (top 13)) [] [] f fd) : FnOk P w K mg base CX0 1 f fd ["one", "other"] (spF K R_less) := by
  refine ok_def F sc_less (fun ds o h => ?_) (fun cdv A outer s H W hr => ⟨_, (pss_one (ps_ret (pe_cmpR op_lt (pe_op op_mulW (pe_ix ix_tup (pv 0) pe_int (fun _ _ => rfl)) (pe_ix ix_tup (pv 1) pe_int (fun _ _ => rfl))) (pe_op op_mulW (pe_ix ix_tup (pv 1) pe_int (fun _ _ => rfl)) (pe_ix ix_tup (pv 0) pe_int (fun _ _ => rfl))) (nomark _)))), fun ds o h => ?_⟩)
  · obtain ⟨x, y, rfl, _, _, rfl⟩ := h
    exact ⟨rfl, .inl ⟨_, rfl⟩⟩
  · obtain ⟨x, y, rfl, hx, hy, rfl⟩ := h
    refine s_ret ((ev_op (ev_mul (ev_num (ev_var rfl)) (ev_den (ev_var rfl)) (hx.cnd hy)) (ev_mul (ev_num (ev_var rfl)) (ev_den (ev_var rfl)) (hy.cnd hx)) od_lt).eq (by rw [less_eq])) (.inl rfl)
end
end K57
/-! D2: sightings -/
namespace K57
open PySem PySem.Spec PyProof.Rows L2 PD M
structure Sg where
  i : Nat
  j : Nat
  v : Rat
  w : Rat
  v2 : Rat
  w2 : Rat
def encS (s : Sg) : PyData := .tuple [.int (s.i : Int), .int (s.j : Int), encR s.v, encR s.w, encR s.v2, encR s.w2]
def Sg.lost (s : Sg) : Rat := s.v - s.v2
def Sg.gained (s : Sg) : Rat := s.w2 - s.w
/-- the second ball's weight by the first one's -/
def Sg.sh (s : Sg) : Rat := s.lost / s.gained
structure OkSg (s : Sg) : Prop where
  v : Ok s.v
  w : Ok s.w
  v2 : Ok s.v2
  w2 : Ok s.w2
  lost : Ok s.lost
  gained : Ok s.gained
  sh : Ok s.sh
def Sg.reb (s : Sg) : Bool := !decide (s.v = s.w) && decide (s.w2 - s.v2 = s.v - s.w)
def shareOf (s : Sg) : Option Rat := if (!s.reb || decide (s.gained = 0)) = true then none else if (!decide (0 < s.sh)) = true then none else some s.sh
def encO : Option Rat → PyData
  | none => .none
  | some q => encR q
/-- a sighting that weights do -/
structure Good (n : Nat) (s : Sg) : Prop where
  ok : OkSg s
  reb : s.reb = true
  g0 : s.gained ≠ 0
  pos : 0 < s.sh
  sm : Sm 11 s.sh
  li : s.i < n
  lj : s.j < n
theorem Good.share {n : Nat} {s : Sg} (h : Good n s) : shareOf s = some s.sh := by
  unfold shareOf
  rw [if_neg (by simp [h.reb, h.g0]), if_neg (by simp [h.pos])]
theorem pos_ne {x : Rat} (h : 0 < x) : x ≠ 0 := fun e => by rw [e] at h; exact absurd h (by decide)
theorem Good.ne {n : Nat} {s : Sg} (h : Good n s) : s.sh ≠ 0 := pos_ne h.pos
theorem sm_one {n : Nat} (h : 0 < n) : Sm n (1 : Rat) := ⟨Nat.one_lt_pow (by omega) (by decide), Nat.one_lt_pow (by omega) (by decide)⟩
theorem sm_zero {n : Nat} (h : 0 < n) : Sm n (0 : Rat) := ⟨Nat.pow_pos (by decide), Nat.one_lt_pow (by omega) (by decide)⟩
theorem sm_inv {n : Nat} {x : Rat} (h : Sm n x) (h0 : x ≠ 0) : Sm n (1 / x) := by
  rw [← over_eq]
  refine divInt_small (mul_ne (den_ne 1) (num_ne h0)) ?_ ?_
  · show (1 * (x.den : Int)).natAbs < 2 ^ n
    rw [Int.one_mul]
    exact h.2
  · show (1 * x.num).natAbs < 2 ^ n
    rw [Int.one_mul]
    exact h.1
/-- what steps_from tells of one sighting: number, way, the other ball, its weight by this one's -/
abbrev St4 := Nat × Nat × Nat × Rat
def encSt (x : St4) : PyData := .tuple [.int (x.1 : Int), .int (x.2.1 : Int), .int (x.2.2.1 : Int), encR x.2.2.2]
def stepAt (b m : Nat) (s : Sg) : List St4 := (if s.i = b then [(m, 0, s.j, s.sh)] else []) ++ (if s.j = b then [(m, 1, s.i, 1 / s.sh)] else [])
def stepsUp (ss : List Sg) (b : Nat) : Nat → List St4
  | 0 => []
  | k + 1 => stepsUp ss b k ++ match ss[k]? with | some s => stepAt b k s | none => []
def steps (ss : List Sg) (b : Nat) : List St4 := stepsUp ss b ss.length
theorem stepAt_len (b m : Nat) (s : Sg) : (stepAt b m s).length ≤ 2 := by
  unfold stepAt
  split <;> split <;> simp
theorem stepsUp_len (ss : List Sg) (b : Nat) : ∀ k, (stepsUp ss b k).length ≤ 2 * k
  | 0 => Nat.le_refl _
  | k + 1 => by
    unfold stepsUp
    rw [List.length_append]
    have h := stepsUp_len ss b k
    cases ss[k]? with
    | none => simp; omega
    | some s => have := stepAt_len b k s; simp only []; omega
theorem stepsUp_mem {ss : List Sg} {b : Nat} {x : St4} : ∀ {k : Nat}, x ∈ stepsUp ss b k → ∃ m s, m < k ∧ ss[m]? = some s ∧ x ∈ stepAt b m s
  | 0, h => by cases h
  | k + 1, h => by
    unfold stepsUp at h
    rcases List.mem_append.mp h with h | h
    · obtain ⟨m, s, h1, h2, h3⟩ := stepsUp_mem h
      exact ⟨m, s, by omega, h2, h3⟩
    · cases e : ss[k]? with
      | none => rw [e] at h; cases h
      | some s => rw [e] at h; exact ⟨k, s, by omega, e, h⟩
theorem mem_stepsUp {ss : List Sg} {b m : Nat} {s : Sg} {x : St4} (e : ss[m]? = some s) (h : x ∈ stepAt b m s) : ∀ {k : Nat}, m < k → x ∈ stepsUp ss b k
  | k + 1, hk => by
    unfold stepsUp
    by_cases hm : m < k
    · exact List.mem_append_left _ (mem_stepsUp e h hm)
    · have : m = k := by omega
      subst this
      rw [e]
      exact List.mem_append_right _ h
/-- one step of a ring: number of a sighting, way -/
abbrev Pr2 := Nat × Nat
def encP (x : Pr2) : PyData := .tuple [.int (x.1 : Int), .int (x.2 : Int)]
/-- from which ball to which, and by which share -/
def stepBy (ss : List Sg) (x : Pr2) : Nat × Nat × Rat := match ss[x.1]? with
  | some s => if x.2 = 0 then (s.i, s.j, s.sh) else (s.j, s.i, 1 / s.sh)
  | none => (0, 0, 1)
def encB3 (x : Nat × Nat × Rat) : PyData := .tuple [.int (x.1 : Int), .int (x.2.1 : Int), encR x.2.2]
def rprod : List (Nat × Nat × Rat) → Rat
  | [] => 1
  | x :: r => x.2.2 * rprod r
def R_changes : List PyData → Out → Prop := fun ds o => ∃ s : Sg, ds = [encS s] ∧ OkSg s ∧ o = .rt (.tuple [encR s.lost, encR s.gained])
def R_is_rebound : List PyData → Out → Prop := fun ds o => ∃ s : Sg, ds = [encS s] ∧ OkSg s ∧ o = .rt (.bool s.reb)
def R_share_of : List PyData → Out → Prop := fun ds o => ∃ s : Sg, ds = [encS s] ∧ OkSg s ∧ o = .rt (encO (shareOf s))
def R_turned_over : List PyData → Out → Prop := fun ds o => ∃ q : Rat, ds = [encR q] ∧ Ok q ∧ q ≠ 0 ∧ o = .rt (encR (1 / q))
/-- weights that do a sighting -/
structure DoneBy (ws : List Int) (s : Sg) : Prop where
  ok : OkSg s
  reb : s.reb = true
  ex : ∃ a b : Int, ws[s.i]? = some a ∧ ws[s.j]? = some b ∧ a.natAbs < 2 ^ 11 ∧ b.natAbs < 2 ^ 11 ∧ (a : Rat) * s.lost = (b : Rat) * s.gained
def R_is_done : List PyData → Out → Prop := fun ds o => ∃ (ws : List Int) (s : Sg), ds = [.tuple (ws.map .int), encS s] ∧ DoneBy ws s ∧ o = .rt (.bool true)
def R_does_all : List PyData → Out → Prop := fun ds o => ∃ (ws : List Int) (ss : List Sg), ds = [.tuple (ws.map .int), .list (ss.map encS)] ∧ ws.length ≤ 100 ∧ ss.length ≤ 100 ∧ (∀ a ∈ ws, 1 ≤ a) ∧ (∀ s ∈ ss, DoneBy ws s) ∧ o = .rt (.bool true)
def R_steps_from : List PyData → Out → Prop := fun ds o => ∃ (n : Nat) (ss : List Sg) (b : Nat), ds = [.list (ss.map encS), .int (b : Int)] ∧ ss.length ≤ 100 ∧ (∀ s ∈ ss, Good n s) ∧ o = .rt (.list ((steps ss b).map encSt))
def R_step_by : List PyData → Out → Prop := fun ds o => ∃ (n : Nat) (ss : List Sg) (x : Pr2), ds = [.int (n : Int), .list (ss.map encS), encP x] ∧ (∀ s ∈ ss, Good n s) ∧ x.1 < ss.length ∧ x.2 < 2 ∧ o = .rt (encB3 (stepBy ss x))
/-- a ring that shows that no weights do all -/
structure IsRing (ss : List Sg) (ring : List Pr2) : Prop where
  ne : ring ≠ []
  ok : ∀ x ∈ ring, x.1 < ss.length ∧ x.2 < 2
  adj : ∀ (k : Nat) (x y : Pr2), ring[k]? = some x → (ring.drop 1 ++ ring.take 1)[k]? = some y → (stepBy ss x).2.1 = (stepBy ss y).1
  prod : rprod (ring.map (stepBy ss)) ≠ 1
def R_lets_ring : List PyData → Out → Prop := fun ds o => ∃ (n : Nat) (ss : List Sg) (ring : List Pr2), ds = [.int (n : Int), .list (ss.map encS), .list (ring.map encP)] ∧ (∀ s ∈ ss, Good n s) ∧ ring.length ≤ 100 ∧ IsRing ss ring ∧ o = .rt (.bool true)
section
variable {K : PySem.W.Frag} {mg : Str → Option Value} {aN aO : Addr} {M : Addr → Prop} {ρ : List Sl}
theorem ev_N (T : Txt K mg aN aO) : Ev K M (tC (.ref aN)) ρ (encR 0) := ev_c fun F => .tup (T.vN F) (.cons (.int 0) (.cons (.int 1) .nil))
theorem ev_O (T : Txt K mg aN aO) : Ev K M (tC (.ref aO)) ρ (encR 1) := ev_c fun F => .tup (T.vO F) (.cons (.int 1) (.cons (.int 1) .nil))
/-- an item of a tuple, a list by a number that is reckoned -/
theorem ev_ixTn {te tj : TE} {xs : List PyData} {j : Nat} {d : PyData} (h : Ev K M te ρ (.tuple xs)) (hj : Ev K M tj ρ (.int (j : Int))) (e : xs[j]? = some d) : Ev K M (tOp (rIxT K) te tj) ρ d := ev_op h hj (od_ixT (atI_nat e))
theorem ev_ixLn {te tj : TE} {xs : List PyData} {j : Nat} {d : PyData} (h : Ev K M te ρ (.list xs)) (hj : Ev K M tj ρ (.int (j : Int))) (e : xs[j]? = some d) : Ev K M (tOp (rIxL K) te tj) ρ d := ev_op h hj (od_ixL (atI_nat e))
end
end K57
/-! F2: what is seen -/
namespace K57
open PySem PySem.Spec PyProof.Rows L2 PD M
section
variable {P : Program} {w : World} {K : PySem.W.Frag} {mg : Str → Option Value} {base : Heap}
theorem tg_sight {M : Addr → Prop} {ρ : List Sl} {s : Sg} : Tg K M (gTup K 6 (gCons (gName 1) (gCons (gName 2) (gCons (gName 3) (gCons (gName 4) (gCons (gName 5) (gCons (gName 6) gNil))))))) ρ (encS s)
    ((((((ρ.set 1 (.d (.int (s.i : Int)))).set 2 (.d (.int (s.j : Int)))).set 3 (.d (encR s.v))).set 4 (.d (encR s.w))).set 5 (.d (encR s.v2))).set 6 (.d (encR s.w2))) :=
  tg_tup rfl (tgA_cons tg_name (tgA_cons tg_name (tgA_cons tg_name (tgA_cons tg_name (tgA_cons tg_name (tgA_cons tg_name tgA_nil))))))
theorem sc_changes : FnScope ["sighting", "i", "j", "v", "w", "v_behind", "w_behind"] ["sighting"] (defScope (top 17)) := ⟨rfl, rfl, rfl, by decide +kernel, rfl, by decide +kernel, by decide +kernel⟩
theorem ok_changes {f aN aO : Addr} {fd : FuncData} (T : Txt K mg aN aO)  (C_minus : Cal P w K mg base CX0 3 "minus" ["one", "other"] [] (spF K R_minus))  (F : FunD K "changes" "changes" (defArgs (top 17)) (defBody (top 17)) (defScope (top 17)) [] [] f fd) : FnOk P w K mg base CX0 4 f fd ["sighting"] (spF K R_changes) := by
  refine ok_def F sc_changes (fun ds o h => ?_) (fun cdv A outer s H W hr => ⟨_, (pss_cons (ps_asg (pv 0) (pg_tup rfl (pgs_cons (pg_name (i := 1) sc_changes.nd rfl (Or.inl rfl)) (pgs_cons (pg_name (i := 2) sc_changes.nd rfl (Or.inl rfl)) (pgs_cons (pg_name (i := 3) sc_changes.nd rfl (Or.inl rfl)) (pgs_cons (pg_name (i := 4) sc_changes.nd rfl (Or.inl rfl)) (pgs_cons (pg_name (i := 5) sc_changes.nd rfl (Or.inl rfl)) (pgs_cons (pg_name (i := 6) sc_changes.nd rfl (Or.inl rfl)) pgs_nil))))))))
      (pss_one (ps_ret (pe_tup (pa_cons (pe_cal C_minus (hr.mono (by decide)) pass0 (pa_cons (pv 3) (pa_cons (pv 5) pa_nil))) (pa_cons (pe_cal C_minus (hr.mono (by decide)) pass0 (pa_cons (pv 6) (pa_cons (pv 4) pa_nil))) pa_nil)))))), fun ds o h => ?_⟩)
  · obtain ⟨s, rfl, _, rfl⟩ := h
    exact ⟨rfl, .inl ⟨_, rfl⟩⟩
  · obtain ⟨s, rfl, hs, rfl⟩ := h
    refine s_seq (s_asg (ev_var rfl) tg_sight ?_)
    exact s_ret (ev_tup (ag_cons (ev_minus (ev_var rfl) (ev_var rfl) hs.v hs.v2) (ag_cons (ev_minus (ev_var rfl) (ev_var rfl) hs.w2 hs.w) ag_nil))) (.inl rfl)
theorem sc_is_rebound : FnScope ["sighting", "i", "j", "v", "w", "v_behind", "w_behind"] ["sighting"] (defScope (top 18)) := ⟨rfl, rfl, rfl, by decide +kernel, rfl, by decide +kernel, by decide +kernel⟩
theorem ok_is_rebound {f aN aO : Addr} {fd : FuncData} (T : Txt K mg aN aO)  (C_minus : Cal P w K mg base CX0 3 "minus" ["one", "other"] [] (spF K R_minus))  (F : FunD K "is_rebound" "is_rebound" (defArgs (top 18)) (defBody (top 18)) (defScope (top 18)) [] [] f fd) : FnOk P w K mg base CX0 4 f fd ["sighting"] (spF K R_is_rebound) := by
  refine ok_def F sc_is_rebound (fun ds o h => ?_) (fun cdv A outer s H W hr => ⟨_, (pss_cons (ps_asg (pv 0) (pg_tup rfl (pgs_cons (pg_name (i := 1) sc_is_rebound.nd rfl (Or.inl rfl)) (pgs_cons (pg_name (i := 2) sc_is_rebound.nd rfl (Or.inl rfl)) (pgs_cons (pg_name (i := 3) sc_is_rebound.nd rfl (Or.inl rfl)) (pgs_cons (pg_name (i := 4) sc_is_rebound.nd rfl (Or.inl rfl)) (pgs_cons (pg_name (i := 5) sc_is_rebound.nd rfl (Or.inl rfl)) (pgs_cons (pg_name (i := 6) sc_is_rebound.nd rfl (Or.inl rfl)) pgs_nil))))))))
      (pss_one (ps_ret (pe_and (pe_cmpR (op_neD hr.units) (pv 3) (pv 4) (nomark _)) (pe_one (pe_cmpR (op_eqD hr.units) (pe_cal C_minus (hr.mono (by decide)) pass0 (pa_cons (pv 6) (pa_cons (pv 5) pa_nil))) (pe_cal C_minus (hr.mono (by decide)) pass0 (pa_cons (pv 3) (pa_cons (pv 4) pa_nil))) (nomark _))))))), fun ds o h => ?_⟩)
  · obtain ⟨s, rfl, _, rfl⟩ := h
    exact ⟨rfl, .inl ⟨_, rfl⟩⟩
  · obtain ⟨s, rfl, hs, rfl⟩ := h
    refine s_seq (s_asg (ev_var rfl) tg_sight ?_)
    refine s_ret ((ev_and (ev_op (ev_var rfl) (ev_var rfl) (od_neD (encR_shaped _) (encR_shaped _))) fun _ => ev_op (ev_minus (ev_var rfl) (ev_var rfl) hs.w2 hs.v2) (ev_minus (ev_var rfl) (ev_var rfl) hs.v hs.w) (od_eqD (encR_shaped _) (encR_shaped _))).eq ?_) (.inl rfl)
    rw [encR_eqv, encR_eqv]
    rfl
theorem sc_share_of : FnScope ["sighting", "share", "lost", "gained"] ["sighting"] (defScope (top 19)) := ⟨rfl, rfl, rfl, by decide +kernel, rfl, by decide +kernel, by decide +kernel⟩
theorem ok_share_of {f aN aO : Addr} {fd : FuncData} (T : Txt K mg aN aO)  (C_changes : Cal P w K mg base CX0 4 "changes" ["sighting"] [] (spF K R_changes)) (C_over : Cal P w K mg base CX0 3 "over" ["one", "other"] [] (spF K R_over)) (C_less : Cal P w K mg base CX0 1 "less" ["one", "other"] [] (spF K R_less)) (C_is_rebound : Cal P w K mg base CX0 4 "is_rebound" ["sighting"] [] (spF K R_is_rebound))  (F : FunD K "share_of" "share_of" (defArgs (top 19)) (defBody (top 19)) (defScope (top 19)) [] [] f fd) : FnOk P w K mg base CX0 5 f fd ["sighting"] (spF K R_share_of) := by
  refine ok_def F sc_share_of (fun ds o h => ?_) (fun cdv A outer s H W hr => ⟨_, (pss_cons (ps_asg (pe_cal C_changes (hr.mono (by decide)) pass0 (pa_cons (pv 0) pa_nil)) (pg_tup rfl (pgs_cons (pg_name (i := 2) sc_share_of.nd rfl (Or.inl rfl)) (pgs_cons (pg_name (i := 3) sc_share_of.nd rfl (Or.inl rfl)) pgs_nil))))
      (pss_cons (ps_if (PW.pt (pw_or (pt_not (pt_val (pe_cal C_is_rebound (hr.mono (by decide)) pass0 (pa_cons (pv 0) pa_nil)))) (pw_or1 (pt_cmpR (op_eqD hr.units) (pv 3) (pe_gtup T.cNOUGHT) (nomark _))))) (pss_one (ps_ret pe_non)) pss_nil)
      (pss_cons (ps_set (i := 1) sc_share_of.nd rfl (Or.inl rfl) (pe_cal C_over (hr.mono (by decide)) pass0 (pa_cons (pv 2) (pa_cons (pv 3) pa_nil))))
      (pss_cons (ps_if (pt_not (pt_val (pe_cal C_less (hr.mono (by decide)) pass0 (pa_cons (pe_gtup T.cNOUGHT) (pa_cons (pv 1) pa_nil))))) (pss_one (ps_ret pe_non)) pss_nil)
      (pss_one (ps_ret (pv 1))))))), fun ds o h => ?_⟩)
  · obtain ⟨s, rfl, _, rfl⟩ := h
    exact ⟨rfl, .inl ⟨_, rfl⟩⟩
  · obtain ⟨s, rfl, hs, rfl⟩ := h
    refine s_seq (s_asg (ev_fn (ag_cons (ev_var rfl) ag_nil) ⟨s, rfl, hs, rfl⟩) (tg_tup rfl (tgA_cons tg_name (tgA_cons tg_name tgA_nil))) ?_)
    refine s_seq (s_if (te_or (te_not (te_val (ev_fn (ag_cons (ev_var rfl) ag_nil) ⟨s, rfl, hs, rfl⟩))) fun _ => te_test (ev_op (ev_var rfl) (ev_N T) (od_eqD (encR_shaped _) (encR_shaped _)))) (fun e => ?_) fun e => s_next ?_)
    · rw [encR_eqv] at e
      refine s_ret ev_non (.inl ?_)
      unfold shareOf
      rw [if_pos e]
      rfl
    · rw [encR_eqv] at e
      have e0 : ¬ (!s.reb || decide (s.gained = 0)) = true := by rw [e]; decide
      have g0 : s.gained ≠ 0 := fun z => e0 (by rw [decide_eq_true z, Bool.or_true])
      refine s_seq (s_set (ev_over (ev_var rfl) (ev_var rfl) hs.lost hs.gained g0) ?_)
      refine s_seq (s_if (te_not (te_val (ev_less (ev_N T) (ev_var rfl) (sm_zero (by decide)) hs.sh))) (fun e => ?_) fun e => s_next ?_)
      · refine s_ret ev_non (.inl ?_)
        unfold shareOf
        rw [if_neg e0]
        show _ = Out.rt (encO (if (!decide (0 < s.sh)) = true then none else some s.sh))
        rw [if_pos (show (!decide (0 < s.sh)) = true from e)]
        rfl
      · refine s_ret (ev_var rfl) (.inl ?_)
        unfold shareOf
        rw [if_neg e0]
        show _ = Out.rt (encO (if (!decide (0 < s.sh)) = true then none else some s.sh))
        rw [if_neg (by rw [show (!decide (0 < s.sh)) = false from e]; decide)]
        rfl
theorem sc_turned_over : FnScope ["share"] ["share"] (defScope (top 22)) := ⟨rfl, rfl, rfl, by decide +kernel, rfl, by decide +kernel, by decide +kernel⟩
theorem ok_turned_over {f aN aO : Addr} {fd : FuncData} (T : Txt K mg aN aO)  (C_over : Cal P w K mg base CX0 3 "over" ["one", "other"] [] (spF K R_over))  (F : FunD K "turned_over" "turned_over" (defArgs (top 22)) (defBody (top 22)) (defScope (top 22)) [] [] f fd) : FnOk P w K mg base CX0 4 f fd ["share"] (spF K R_turned_over) := by
  refine ok_def F sc_turned_over (fun ds o h => ?_) (fun cdv A outer s H W hr => ⟨_, (pss_one (ps_ret (pe_cal C_over (hr.mono (by decide)) pass0 (pa_cons (pe_gtup T.cONE) (pa_cons (pv 0) pa_nil))))), fun ds o h => ?_⟩)
  · obtain ⟨q, rfl, _, _, rfl⟩ := h
    exact ⟨rfl, .inl ⟨_, rfl⟩⟩
  · obtain ⟨q, rfl, hq, h0, rfl⟩ := h
    exact s_ret (ev_over (ev_O T) (ev_var rfl) (sm_one (by decide)) hq h0) (.inl rfl)
theorem sc_is_done : FnScope ["weights", "sighting", "one", "lost", "gained"] ["weights", "sighting"] (defScope (top 20)) := ⟨rfl, rfl, rfl, by decide +kernel, rfl, by decide +kernel, by decide +kernel⟩
theorem ok_is_done {f aN aO : Addr} {fd : FuncData} (T : Txt K mg aN aO)  (C_changes : Cal P w K mg base CX0 4 "changes" ["sighting"] [] (spF K R_changes)) (C_times : Cal P w K mg base CX0 3 "times" ["one", "other"] [] (spF K R_times)) (C_ratio1 : Cal P w K mg base CX0 2 "ratio" ["top", "bottom"] [.int 1] (spF K R_ratio)) (C_is_rebound : Cal P w K mg base CX0 4 "is_rebound" ["sighting"] [] (spF K R_is_rebound))  (F : FunD K "is_done" "is_done" (defArgs (top 20)) (defBody (top 20)) (defScope (top 20)) [] [] f fd) : FnOk P w K mg base CX0 5 f fd ["weights", "sighting"] (spF K R_is_done) := by
  refine ok_def F sc_is_done (fun ds o h => ?_) (fun cdv A outer s H W hr => ⟨_, (pss_cons (ps_asg (pe_cal C_changes (hr.mono (by decide)) pass0 (pa_cons (pv 1) pa_nil)) (pg_tup rfl (pgs_cons (pg_name (i := 3) sc_is_done.nd rfl (Or.inl rfl)) (pgs_cons (pg_name (i := 4) sc_is_done.nd rfl (Or.inl rfl)) pgs_nil))))
      (pss_cons (ps_set (i := 2) sc_is_done.nd rfl (Or.inl rfl) (pe_cal C_times (hr.mono (by decide)) pass0 (pa_cons (pe_cal C_ratio1 (hr.mono (by decide)) pass0 (pa_cons (pe_ix ix_tup (pv 0) (pe_ix ix_tup (pv 1) pe_int (fun _ _ => rfl)) (fun _ _ => rfl)) pa_nil)) (pa_cons (pv 3) pa_nil))))
      (pss_one (ps_ret (pe_and (pe_cal C_is_rebound (hr.mono (by decide)) pass0 (pa_cons (pv 1) pa_nil)) (pe_one (pe_cmpR (op_eqD hr.units) (pv 2) (pe_cal C_times (hr.mono (by decide)) pass0 (pa_cons (pe_cal C_ratio1 (hr.mono (by decide)) pass0 (pa_cons (pe_ix ix_tup (pv 0) (pe_ix ix_tup (pv 1) pe_int (fun _ _ => rfl)) (fun _ _ => rfl)) pa_nil)) (pa_cons (pv 4) pa_nil))) (nomark _)))))))), fun ds o h => ?_⟩)
  · obtain ⟨ws, s, rfl, _, rfl⟩ := h
    exact ⟨rfl, .inl ⟨_, rfl⟩⟩
  · obtain ⟨ws, s, rfl, hs, rfl⟩ := h
    obtain ⟨a, b, ha, hb, sa, sb, e⟩ := hs.ex
    have ha' : (ws.map PyData.int)[s.i]? = some (.int a) := by rw [List.getElem?_map, ha]; rfl
    have hb' : (ws.map PyData.int)[s.j]? = some (.int b) := by rw [List.getElem?_map, hb]; rfl
    have oa : Ok (a : Rat) := (Sm.int sa (by decide)).mono (by decide)
    have ob : Ok (b : Rat) := (Sm.int sb (by decide)).mono (by decide)
    refine s_seq (s_asg (ev_fn (ag_cons (ev_var rfl) ag_nil) ⟨s, rfl, hs.ok, rfl⟩) (tg_tup rfl (tgA_cons tg_name (tgA_cons tg_name tgA_nil))) ?_)
    refine s_seq (s_set (ev_times (ev_ratio1 (ev_ixTn (ev_var rfl) (ev_op (ev_var (d := encS s) rfl) ev_int (od_ixT rfl)) ha')) (ev_var rfl) oa hs.ok.lost) ?_)
    refine s_ret ((ev_and (ev_fn (ag_cons (ev_var rfl) ag_nil) ⟨s, rfl, hs.ok, rfl⟩) fun _ => ev_op (ev_var rfl) (ev_times (ev_ratio1 (ev_ixTn (ev_var rfl) (ev_op (ev_var (d := encS s) rfl) ev_int (od_ixT rfl)) hb')) (ev_var rfl) ob hs.ok.gained) (od_eqD (encR_shaped _) (encR_shaped _))).eq ?_) (.inl rfl)
    rw [hs.reb, encR_eqv, e]
    simp
theorem sc_does_all : FnScope ["weights", "sightings", "sighting", "weight"] ["weights", "sightings"] (defScope (top 21)) := ⟨rfl, rfl, rfl, by decide +kernel, rfl, by decide +kernel, by decide +kernel⟩
theorem ok_does_all {f aN aO : Addr} {fd : FuncData} (T : Txt K mg aN aO)  (C_is_done : Cal P w K mg base CX0 5 "is_done" ["weights", "sighting"] [] (spF K R_is_done))  (F : FunD K "does_all" "does_all" (defArgs (top 21)) (defBody (top 21)) (defScope (top 21)) [] [] f fd) : FnOk P w K mg base CX0 6 f fd ["weights", "sightings"] (spF K R_does_all) := by
  refine ok_def F sc_does_all (fun ds o h => ?_) (fun cdv A outer s H W hr => ⟨_, (pss_cons (ps_if (pt_not (pt_val (pe_callB (cr_all rfl) (by rfl) T.f_all (by decide +kernel) (pa_cons (pe_lc (own := [("weight", 3)]) rfl sc_does_all.nd (pi_tup (pv 0)) (blkOk_by (N := ["weights", "sightings", "sighting", "weight"]) (sc := defScope (top 21)) (by decide +kernel)) (fun _ _ _ _ _ => (pg_name (i := 3) sc_does_all.nd rfl (Or.inl rfl))) (fun _ _ _ _ _ => pts_nil) (fun _ _ _ _ _ => (pe_cmpR op_ge (pv 3) pe_int (nomark _)))) pa_nil)))) (pss_one (ps_ret pe_bl)) pss_nil)
      (pss_one (ps_ret (pe_callB (cr_all rfl) (by rfl) T.f_all (by decide +kernel) (pa_cons (pe_lc (own := [("sighting", 2)]) rfl sc_does_all.nd (pi_list (pv 1)) (blkOk_by (N := ["weights", "sightings", "sighting", "weight"]) (sc := defScope (top 21)) (by decide +kernel)) (fun _ _ _ _ _ => (pg_name (i := 2) sc_does_all.nd rfl (Or.inl rfl))) (fun _ _ _ _ _ => pts_nil) (fun _ _ _ _ _ => (pe_cal C_is_done (hr.mono (by decide)) pass0 (pa_cons (pv 0) (pa_cons (pv 2) pa_nil))))) pa_nil))))), fun ds o h => ?_⟩)
  · obtain ⟨ws, ss, rfl, _, _, _, _, rfl⟩ := h
    exact ⟨rfl, .inl ⟨_, rfl⟩⟩
  · obtain ⟨ws, ss, rfl, l1, l2, hw, hs, rfl⟩ := h
    have key : ∀ {α : Type} (l : List α), ((l.map fun _ => true).all id) = true := fun l => by induction l <;> simp_all
    refine s_seq (s_ifF (te_not (c := true) (te_val (Ev.eq (ev_cb (ag_cons (EL.ev (el_mapT (h := fun _ => .bool true) (ev_var rfl) (by simp; omega) fun x hx => ?_)) ag_nil) (d := .bool ((ws.map fun _ => true).all id)) ?_) (by rw [key])))) (s_next ?_))
    · obtain ⟨a, ha, rfl⟩ := List.mem_map.mp hx
      exact ⟨_, te_name (by decide), (ev_op (ev_var rfl) ev_int od_ge).eq (by rw [decide_eq_true (hw a ha)])⟩
    · have : (ws.map PyData.int).map (fun _ => PyData.bool true) = (ws.map fun _ => true).map PyData.bool := by simp
      rw [this]
      exact cb_all
    · refine s_ret (Ev.eq (ev_cb (ag_cons (EL.ev (el_mapL (h := fun _ => .bool true) (ev_var rfl) (by simp; omega) fun x hx => ?_)) ag_nil) (d := .bool ((ss.map fun _ => true).all id)) ?_) (by rw [key])) (.inl rfl)
      · obtain ⟨s, hs', rfl⟩ := List.mem_map.mp hx
        exact ⟨_, te_name (by decide), ev_fn (ag_cons (ev_var rfl) (ag_cons (ev_var rfl) ag_nil)) ⟨ws, s, rfl, hs s hs', rfl⟩⟩
      · have : (ss.map encS).map (fun _ => PyData.bool true) = (ss.map fun _ => true).map PyData.bool := by simp
        rw [this]
        exact cb_all
theorem sc_steps_from : FnScope ["sightings", "ball", "found", "number", "sighting"] ["sightings", "ball"] (defScope (top 23)) := ⟨rfl, rfl, rfl, by decide +kernel, rfl, by decide +kernel, by decide +kernel⟩
theorem ok_steps_from {f aN aO : Addr} {fd : FuncData} (T : Txt K mg aN aO)  (C_share_of : Cal P w K mg base CX0 5 "share_of" ["sighting"] [] (spF K R_share_of)) (C_turned_over : Cal P w K mg base CX0 4 "turned_over" ["share"] [] (spF K R_turned_over))  (F : FunD K "steps_from" "steps_from" (defArgs (top 23)) (defBody (top 23)) (defScope (top 23)) [] [] f fd) : FnOk P w K mg base CX0 6 f fd ["sightings", "ball"] (spF K R_steps_from) := by
  refine ok_def F sc_steps_from (fun ds o h => ?_) (fun cdv A outer s H W hr => ⟨_, (pss_cons (ps_set (i := 2) sc_steps_from.nd rfl (Or.inl rfl) (pe_lst pa_nil))
      (pss_cons (ps_for (passes_of rfl) rfl (pi_enum (by rfl) T.f_enumerate (pa_cons (pv 0) pa_nil)) (pg_tup rfl (pgs_cons (pg_name (i := 3) sc_steps_from.nd rfl (Or.inl rfl)) (pgs_cons (pg_name (i := 4) sc_steps_from.nd rfl (Or.inl rfl)) pgs_nil))) (pss_cons (ps_if (pt_cmpR op_eq (pe_ix ix_tup (pv 4) pe_int (fun _ _ => rfl)) (pv 1) (nomark _)) (pss_one (ps_expr (pe_bm PySem.F.plainAttrs_list PySem.F.slot_list_append PySem.F.type_list_append mt_append (pv 2) (pa_cons (pe_tup (pa_cons (pv 3) (pa_cons pe_int (pa_cons (pe_ix ix_tup (pv 4) pe_int (fun _ _ => rfl)) (pa_cons (pe_cal C_share_of (hr.mono (by decide)) pass0 (pa_cons (pv 4) pa_nil)) pa_nil))))) pa_nil)))) pss_nil)
      (pss_one (ps_if (pt_cmpR op_eq (pe_ix ix_tup (pv 4) pe_int (fun _ _ => rfl)) (pv 1) (nomark _)) (pss_one (ps_expr (pe_bm PySem.F.plainAttrs_list PySem.F.slot_list_append PySem.F.type_list_append mt_append (pv 2) (pa_cons (pe_tup (pa_cons (pv 3) (pa_cons pe_int (pa_cons (pe_ix ix_tup (pv 4) pe_int (fun _ _ => rfl)) (pa_cons (pe_cal C_turned_over (hr.mono (by decide)) pass0 (pa_cons (pe_cal C_share_of (hr.mono (by decide)) pass0 (pa_cons (pv 4) pa_nil)) pa_nil)) pa_nil))))) pa_nil)))) pss_nil))))
      (pss_one (ps_ret (pv 2))))), fun ds o h => ?_⟩)
  · obtain ⟨n, ss, b, rfl, _, _, rfl⟩ := h
    exact ⟨rfl, .inl ⟨_, rfl⟩⟩
  · obtain ⟨n, ss, b, rfl, hl, hs, rfl⟩ := h
    refine s_seq (s_setL (el_lst ag_nil) ?_)
    refine s_seq (s_forE (xs := ss.map encS) (fun k ρ => ∃ s3 s4, ρ = [.d (.list (ss.map encS)), .d (.int b), .l ((stepsUp ss b k).map encSt), s3, s4]) (ag_cons (ev_var rfl) ag_nil) ⟨_, _, rfl⟩ ?_ ?_)
    · rintro k x ρ hx ⟨s3, s4, rfl⟩
      rw [List.getElem?_map] at hx
      cases e : ss[k]? with
      | none => rw [e] at hx; cases hx
      | some s =>
        rw [e] at hx
        cases hx
        have hk : k < ss.length := (List.getElem?_eq_some_iff.mp e).1
        have hg := hs s (List.mem_of_getElem? e)
        have hlen := stepsUp_len ss b k
        have esh : ∀ {M : Addr → Prop} {ρ : List Sl} {i : Nat}, ρ[i]? = some (.d (encS s)) → Ev K M (tCall (spF K R_share_of) [] E0 (tCons (tVar i) tNil)) ρ (encR s.sh) := fun {M ρ i} h => by
          have := ev_fn (W := E0) (ag_cons (K := K) (M := M) (ev_var h) ag_nil) (R := R_share_of) (d := encO (shareOf s)) ⟨s, rfl, hg.ok, rfl⟩
          rw [hg.share] at this
          exact this
        refine ⟨_, tg_tup rfl (tgA_cons tg_name (tgA_cons tg_name tgA_nil)), ?_⟩
        have eI : ∀ {a c : Nat}, decide ((a : Int) = (c : Int)) = decide (a = c) := fun {a c} => by
          rw [decide_eq_decide]; omega
        have st : stepsUp ss b (k + 1) = stepsUp ss b k ++ stepAt b k s := by
          show stepsUp ss b k ++ (match ss[k]? with | some s => stepAt b k s | none => []) = _
          rw [e]
        refine s_seq (s_if (te_test (ev_op (ev_op (ev_var (d := encS s) rfl) ev_int (od_ixT rfl)) (ev_var rfl) od_eqI)) (fun c => ?_) fun c => s_next ?_)
        · have c1 : s.i = b := by rw [eI] at c; exact of_decide_eq_true c
          refine s_append rfl (ev_tup (ag_cons (ev_var rfl) (ag_cons ev_int (ag_cons (ev_op (ev_var (d := encS s) rfl) ev_int (od_ixT rfl)) (ag_cons (esh rfl) ag_nil))))) (by rw [List.length_map]; omega) ?_
          refine s_if (te_test (ev_op (ev_op (ev_var (d := encS s) rfl) ev_int (od_ixT rfl)) (ev_var rfl) od_eqI)) (fun c2 => ?_) fun c2 => s_next ?_
          · have c3 : s.j = b := by rw [eI] at c2; exact of_decide_eq_true c2
            refine s_append rfl (ev_tup (ag_cons (ev_var rfl) (ag_cons ev_int (ag_cons (ev_op (ev_var (d := encS s) rfl) ev_int (od_ixT rfl)) (ag_cons (ev_fn (ag_cons (esh rfl) ag_nil) ⟨s.sh, rfl, hg.ok.sh, hg.ne, rfl⟩) ag_nil))))) (by rw [List.length_append, List.length_map]; simp; omega) ?_
            refine ⟨.d (.int (k : Int)), .d (encS s), ?_⟩
            rw [st, List.map_append, stepAt, if_pos c1, if_pos c3]
            simp only [List.set_cons_succ, List.set_cons_zero, List.append_assoc]
            rfl
          · have c3 : ¬ s.j = b := by rw [eI] at c2; exact of_decide_eq_false c2
            refine ⟨.d (.int (k : Int)), .d (encS s), ?_⟩
            rw [st, List.map_append, stepAt, if_pos c1, if_neg c3]
            rfl
        · have c1 : ¬ s.i = b := by rw [eI] at c; exact of_decide_eq_false c
          refine s_if (te_test (ev_op (ev_op (ev_var (d := encS s) rfl) ev_int (od_ixT rfl)) (ev_var rfl) od_eqI)) (fun c2 => ?_) fun c2 => s_next ?_
          · have c3 : s.j = b := by rw [eI] at c2; exact of_decide_eq_true c2
            refine s_append rfl (ev_tup (ag_cons (ev_var rfl) (ag_cons ev_int (ag_cons (ev_op (ev_var (d := encS s) rfl) ev_int (od_ixT rfl)) (ag_cons (ev_fn (ag_cons (esh rfl) ag_nil) ⟨s.sh, rfl, hg.ok.sh, hg.ne, rfl⟩) ag_nil))))) (by rw [List.length_map]; omega) ?_
            refine ⟨.d (.int (k : Int)), .d (encS s), ?_⟩
            rw [st, List.map_append, stepAt, if_neg c1, if_pos c3]
            rfl
          · have c3 : ¬ s.j = b := by rw [eI] at c2; exact of_decide_eq_false c2
            refine ⟨.d (.int (k : Int)), .d (encS s), ?_⟩
            rw [st, List.map_append, stepAt, if_neg c1, if_neg c3]
            simp
    · rintro ρ ⟨s3, s4, rfl⟩
      rw [List.length_map]
      exact s_freeze (i := 2) rfl (s_ret (ev_var rfl) (.inl rfl))
theorem sc_step_by : FnScope ["n", "sightings", "pair", "share", "number", "way", "i", "j"] ["n", "sightings", "pair"] (defScope (top 26)) := ⟨rfl, rfl, rfl, by decide +kernel, rfl, by decide +kernel, by decide +kernel⟩
theorem ok_step_by {f aN aO : Addr} {fd : FuncData} (T : Txt K mg aN aO)  (C_share_of : Cal P w K mg base CX0 5 "share_of" ["sighting"] [] (spF K R_share_of)) (C_turned_over : Cal P w K mg base CX0 4 "turned_over" ["share"] [] (spF K R_turned_over))  (F : FunD K "step_by" "step_by" (defArgs (top 26)) (defBody (top 26)) (defScope (top 26)) [] [] f fd) : FnOk P w K mg base CX0 6 f fd ["n", "sightings", "pair"] (spF K R_step_by) := by
  refine ok_def F sc_step_by (fun ds o h => ?_) (fun cdv A outer s H W hr => ⟨_, (pss_cons (ps_asg (pv 2) (pg_tup rfl (pgs_cons (pg_name (i := 4) sc_step_by.nd rfl (Or.inl rfl)) (pgs_cons (pg_name (i := 5) sc_step_by.nd rfl (Or.inl rfl)) pgs_nil))))
      (pss_cons (ps_if (PW.pt (pw_or (pt_cmpR op_lt (pv 4) pe_int (nomark _)) (pw_or (pt_cmpR op_ge (pv 4) (pe_callB call_len_seq (by rfl) T.f_len (by decide +kernel) (pa_cons (pv 1) pa_nil)) (nomark _)) (pw_or1 (pt_cmpR op_notIn_seq (pv 5) (pe_tup (pa_cons pe_int (pa_cons pe_int pa_nil))) (by rfl)))))) (pss_one (ps_ret pe_non)) pss_nil)
      (pss_cons (ps_asg (pe_slice sl_tup (pe_ix ix_list (pv 1) (pv 4) (fun _ _ => rfl)) po_none (po_some pe_int)) (pg_tup rfl (pgs_cons (pg_name (i := 6) sc_step_by.nd rfl (Or.inl rfl)) (pgs_cons (pg_name (i := 7) sc_step_by.nd rfl (Or.inl rfl)) pgs_nil))))
      (pss_cons (ps_set (i := 3) sc_step_by.nd rfl (Or.inl rfl) (pe_cal C_share_of (hr.mono (by decide)) pass0 (pa_cons (pe_ix ix_list (pv 1) (pv 4) (fun _ _ => rfl)) pa_nil)))
      (pss_cons (ps_if (pt_cmpR op_isN (pv 3) pe_non (nomark _)) (pss_one (ps_ret pe_non)) pss_nil)
      (pss_cons (ps_if (pt_cmpR op_eq (pv 5) pe_int (nomark _)) (pss_one (ps_ret (pe_tup (pa_cons (pv 6) (pa_cons (pv 7) (pa_cons (pv 3) pa_nil)))))) pss_nil)
      (pss_one (ps_ret (pe_tup (pa_cons (pv 7) (pa_cons (pv 6) (pa_cons (pe_cal C_turned_over (hr.mono (by decide)) pass0 (pa_cons (pv 3) pa_nil)) pa_nil)))))))))))), fun ds o h => ?_⟩)
  · obtain ⟨n, ss, x, rfl, _, _, _, rfl⟩ := h
    exact ⟨rfl, .inl ⟨_, rfl⟩⟩
  · obtain ⟨n, ss, ⟨m, wy⟩, rfl, hs, hm, hw, rfl⟩ := h
    have hm : m < ss.length := hm
    have hw : wy < 2 := hw
    have e : ss[m]? = some ss[m] := List.getElem?_eq_getElem hm
    have hg := hs ss[m] (List.getElem_mem hm)
    have eS : (ss.map encS)[m]? = some (encS ss[m]) := by rw [List.getElem?_map, e]; rfl
    have eI : ∀ {a c : Nat}, decide ((a : Int) = (c : Int)) = decide (a = c) := fun {a c} => by
      rw [decide_eq_decide]; omega
    have inW : inV (V.int (wy : Int)) (([0, 1] : List Int).map V.int) = true := by
      have : wy = 0 ∨ wy = 1 := by omega
      rcases this with rfl | rfl <;> rfl
    refine s_seq (s_asg (ev_var rfl) (tg_tup rfl (tgA_cons tg_name (tgA_cons tg_name tgA_nil))) ?_)
    refine s_seq (s_ifF (te_or (c := false) (e := false) ((te_test (ev_op (ev_var rfl) ev_int od_lt)).eq (decide_eq_false (by omega))) fun _ => te_or (c := false) (e := false) ((te_test (ev_op (ev_var rfl) (ev_cb (ag_cons (ev_var rfl) ag_nil) cb_lenL) od_ge)).eq (decide_eq_false (by rw [List.length_map]; omega))) fun _ => (te_test (ev_op (ev_var rfl) (ev_tup (ag_cons ev_int (ag_cons ev_int ag_nil))) (od_notInT (ns := [0, 1])))).eq (by
      show (!inV (V.int (wy : Int)) (([0, 1] : List Int).map V.int)) = false
      rw [inW]; rfl)) (s_next ?_))
    refine s_seq (s_asg (ev_slT (xs := [.int (ss[m].i : Int), .int (ss[m].j : Int), encR ss[m].v, encR ss[m].w, encR ss[m].v2, encR ss[m].w2]) (ev_ixLn (ev_var rfl) (ev_var rfl) eS) pr_none (pr_some ev_int) (by show ¬ (HT.sIx 6 0 none = 0 ∧ HT.sIx 6 6 (some 2) = 6); decide)) (tg_tup (ds := [.int (ss[m].i : Int), .int (ss[m].j : Int)]) rfl (tgA_cons tg_name (tgA_cons tg_name tgA_nil))) ?_)
    have esh : ∀ {M : Addr → Prop} {ρ : List Sl} {te : TE}, Ev K M te ρ (encS ss[m]) → Ev K M (tCall (spF K R_share_of) [] E0 (tCons te tNil)) ρ (encR ss[m].sh) := fun {M ρ i} h => by
      have := ev_fn (W := E0) (ag_cons (K := K) (M := M) h ag_nil) (R := R_share_of) (d := encO (shareOf ss[m])) ⟨ss[m], rfl, hg.ok, rfl⟩
      rw [hg.share] at this
      exact this
    refine s_seq (s_set (esh (ev_ixLn (ev_var rfl) (ev_var rfl) eS)) ?_)
    refine s_seq (s_ifF (te_test (ev_op (ev_var (d := encR ss[m].sh) rfl) ev_non od_isN)) (s_next ?_))
    refine s_seq (s_if (te_test (ev_op (ev_var rfl) ev_int od_eqI)) (fun c => ?_) fun c => s_next ?_)
    · have c1 : wy = 0 := by have := of_decide_eq_true c; omega
      refine s_ret (ev_tup (ag_cons (ev_var rfl) (ag_cons (ev_var rfl) (ag_cons (ev_var rfl) ag_nil)))) (.inl ?_)
      unfold stepBy
      simp only [e, if_pos c1]
      rfl
    · have c1 : ¬ wy = 0 := by have := of_decide_eq_false c; omega
      refine s_ret (ev_tup (ag_cons (ev_var rfl) (ag_cons (ev_var rfl) (ag_cons (ev_fn (ag_cons (ev_var rfl) ag_nil) ⟨_, rfl, hg.ok.sh, hg.ne, rfl⟩) ag_nil)))) (.inl ?_)
      unfold stepBy
      simp only [e, if_neg c1]
      rfl
end
end K57
/-! F3: a ring judged -/
namespace K57
open PySem PySem.Spec PyProof.Rows L2 PD M
theorem rprod_append (a b : List (Nat × Nat × Rat)) : rprod (a ++ b) = rprod a * rprod b := by
  induction a with
  | nil => show rprod b = 1 * rprod b; grind
  | cons x a ih => show x.2.2 * rprod (a ++ b) = x.2.2 * rprod a * rprod b; rw [ih]; grind
theorem rprod_sm {l : List (Nat × Nat × Rat)} (h : ∀ x ∈ l, Sm 11 x.2.2) : Sm (11 * l.length + 1) (rprod l) := by
  induction l with
  | nil => exact sm_one (by decide)
  | cons x l ih =>
    have h1 := h x List.mem_cons_self
    have h2 := ih fun y hy => h y (List.mem_cons_of_mem _ hy)
    exact (h1.mul h2).mono (by rw [List.length_cons]; omega)
theorem stepBy_sm {n : Nat} {ss : List Sg} (hs : ∀ s ∈ ss, Good n s) {x : Pr2} (h : x.1 < ss.length) : Sm 11 (stepBy ss x).2.2 := by
  have e : ss[x.1]? = some ss[x.1] := List.getElem?_eq_getElem h
  have hg := hs ss[x.1] (List.getElem_mem h)
  unfold stepBy
  simp only [e]
  split
  · exact hg.sm
  · exact sm_inv hg.sm hg.ne
theorem cut_all {α : Type} (l : List α) (h : l.length ≥ 1) : cutL l (some 1) none = l.drop 1 ∧ cutL l none (some 1) = l.take 1 := by
  unfold cutL
  rw [HT.sIx_none, HT.sIx_none, show HT.sIx l.length 0 (some 1) = min 1 l.length from HT.sIx_nat l.length 0 1, show HT.sIx l.length l.length (some 1) = min 1 l.length from HT.sIx_nat l.length l.length 1, Nat.min_eq_left h]
  refine ⟨?_, ?_⟩
  · rw [List.take_of_length_le (by rw [List.length_drop]; exact Nat.le_refl _)]
  · rfl
section
variable {P : Program} {w : World} {K : PySem.W.Frag} {mg : Str → Option Value} {base : Heap}
theorem sc_lets_ring : FnScope ["n", "sightings", "ring", "steps", "product", "one", "following", "pair"] ["n", "sightings", "ring"] (defScope (top 27)) := ⟨rfl, rfl, rfl, by decide +kernel, rfl, by decide +kernel, by decide +kernel⟩
theorem ok_lets_ring {f aN aO : Addr} {fd : FuncData} (T : Txt K mg aN aO)  (C_step_by : Cal P w K mg base CX0 6 "step_by" ["n", "sightings", "pair"] [] (spF K R_step_by)) (C_times : Cal P w K mg base CX0 3 "times" ["one", "other"] [] (spF K R_times))  (F : FunD K "lets_ring" "lets_ring" (defArgs (top 27)) (defBody (top 27)) (defScope (top 27)) [] [] f fd) : FnOk P w K mg base CX0 7 f fd ["n", "sightings", "ring"] (spF K R_lets_ring) := by
  refine ok_def F sc_lets_ring (fun ds o h => ?_) (fun cdv A outer s H W hr => ⟨_, (pss_cons (ps_setLc (i := 3) (own := [("pair", 7)]) rfl sc_lets_ring.nd rfl rfl (sw_true rfl rfl rfl (by decide +kernel)) (pi_list (pv 2)) (blkOk_by (N := ["n", "sightings", "ring", "steps", "product", "one", "following", "pair"]) (sc := defScope (top 27)) (by decide +kernel)) (fun _ _ _ _ _ => (pg_name (i := 7) sc_lets_ring.nd rfl (Or.inl rfl))) (fun _ _ _ _ _ => pts_nil) (fun _ _ _ _ _ => (pe_cal C_step_by (hr.mono (by decide)) pass0 (pa_cons (pv 0) (pa_cons (pv 1) (pa_cons (pv 7) pa_nil))))))
      (pss_cons (ps_if (PW.pt (pw_or (pt_cmpR (op_eqD hr.units) (pv 3) (pe_lst pa_nil) (nomark _)) (pw_or1 (pt_cmpR (op_inD (hu65 hr)) pe_non (pv 3) (by rfl))))) (pss_one (ps_ret pe_bl)) pss_nil)
      (pss_cons (ps_set (i := 4) sc_lets_ring.nd rfl (Or.inl rfl) (pe_gtup T.cONE))
      (pss_cons (ps_for (passes_of rfl) rfl (pi_zip (by rfl) T.f_zip (pa_cons (pv 3) (pa_cons (pe_op op_cat (pe_slice sl_list (pv 3) (po_some pe_int) po_none) (pe_slice sl_list (pv 3) po_none (po_some pe_int))) pa_nil))) (pg_tup rfl (pgs_cons (pg_name (i := 5) sc_lets_ring.nd rfl (Or.inl rfl)) (pgs_cons (pg_name (i := 6) sc_lets_ring.nd rfl (Or.inl rfl)) pgs_nil))) (pss_cons (ps_if (pt_cmpR op_ne (pe_ix ix_tup (pv 5) pe_int (fun _ _ => rfl)) (pe_ix ix_tup (pv 6) pe_int (fun _ _ => rfl)) (nomark _)) (pss_one (ps_ret pe_bl)) pss_nil)
      (pss_one (ps_set (i := 4) sc_lets_ring.nd rfl (Or.inl rfl) (pe_cal C_times (hr.mono (by decide)) pass0 (pa_cons (pv 4) (pa_cons (pe_ix ix_tup (pv 5) pe_int (fun _ _ => rfl)) pa_nil)))))))
      (pss_one (ps_ret (pe_cmpR (op_neD hr.units) (pv 4) (pe_gtup T.cONE) (nomark _)))))))), fun ds o h => ?_⟩)
  · obtain ⟨n, ss, ring, rfl, _, _, _, rfl⟩ := h
    exact ⟨rfl, .inl ⟨_, rfl⟩⟩
  · obtain ⟨n, ss, ring, rfl, hs, hl, hr', rfl⟩ := h
    have hne : ring.length ≥ 1 := by
      cases ring with
      | nil => exact absurd rfl hr'.ne
      | cons x r => simp
    refine s_seq (s_setL (el_mapLf encP (h := fun x => encB3 (stepBy ss x)) (ev_var rfl) (by omega) fun x hx => ?_) ?_)
    · obtain ⟨h1, h2⟩ := hr'.ok x hx
      exact ⟨_, te_name (by decide), ev_fn (ag_cons (ev_var rfl) (ag_cons (ev_var rfl) (ag_cons (ev_var rfl) ag_nil))) ⟨n, ss, x, rfl, hs, h1, h2, rfl⟩⟩
    · refine s_freeze (i := 3) rfl ?_
      have hsh : SeqAt.shaped (.list (ring.map fun x => encB3 (stepBy ss x))) = true := shaped_list fun d hd => by
        obtain ⟨x, _, rfl⟩ := List.mem_map.mp hd
        exact ⟨rfl, show (2 : Nat) ≤ 30 by decide⟩
      have e1 : PyData.eqv (.list (ring.map fun x => encB3 (stepBy ss x))) (.list []) = false := by
        cases ring with
        | nil => exact absurd rfl hr'.ne
        | cons x r => rfl
      have e2 : ((ring.map fun x => encB3 (stepBy ss x)).any fun z => PyData.eqv z .none) = false := by
        rw [List.any_eq_false]
        intro d hd
        obtain ⟨x, _, rfl⟩ := List.mem_map.mp hd
        simp [encB3, PyData.eqv]
      refine s_seq (s_ifF (te_or (c := false) (e := false) ((te_test (ev_op (ev_var rfl) (EL.ev (el_lst ag_nil)) (od_eqD hsh rfl))).eq e1) fun _ => (te_test (ev_op ev_non (ev_var rfl) (od_inD rfl hsh))).eq e2) (s_next ?_))
      refine s_seq (s_set (ev_O T) ?_)
      have hrl : (ring.map fun x => encB3 (stepBy ss x)).length = ring.length := List.length_map _
      obtain ⟨c1, c2⟩ := cut_all (ring.map fun x => encB3 (stepBy ss x)) (by rw [hrl]; exact hne)
      refine s_seq (s_forZ (xs := ring.map fun x => encB3 (stepBy ss x)) (ys := (ring.map fun x => encB3 (stepBy ss x)).drop 1 ++ (ring.map fun x => encB3 (stepBy ss x)).take 1)
        (fun k ρ => ∃ s5 s6 s7, ρ = [.d (.int (n : Int)), .d (.list (ss.map encS)), .d (.list (ring.map encP)), .d (.list (ring.map fun x => encB3 (stepBy ss x))), .d (encR (rprod ((ring.take k).map (stepBy ss)))), s5, s6, s7])
        (ag_cons (ev_var rfl) (ag_cons ((EL.ev (el_op (EL.ev (el_sl (ev_var rfl) (pr_some ev_int) pr_none)) (EL.ev (el_sl (ev_var rfl) pr_none (pr_some ev_int))) (ol_cat (by rw [c1, c2, List.length_drop, List.length_take, hrl]; omega)))).eq (by rw [c1, c2])) ag_nil)) ⟨_, _, _, rfl⟩ ?_ ?_)
      · rintro k x y ρ hx hy ⟨s5, s6, s7, rfl⟩
        have e3 : (ring.map fun x => encB3 (stepBy ss x)).drop 1 ++ (ring.map fun x => encB3 (stepBy ss x)).take 1 = (ring.drop 1 ++ ring.take 1).map fun x => encB3 (stepBy ss x) := by
          rw [List.map_append, List.map_drop, List.map_take]
        rw [e3] at hy
        rw [List.getElem?_map] at hx hy
        cases ex : ring[k]? with
        | none => rw [ex] at hx; cases hx
        | some a =>
          cases ey : (ring.drop 1 ++ ring.take 1)[k]? with
          | none => rw [ey] at hy; cases hy
          | some b =>
            rw [ex] at hx
            rw [ey] at hy
            cases hx
            cases hy
            have adj := hr'.adj k a b ex ey
            have hk : k < ring.length := (List.getElem?_eq_some_iff.mp ex).1
            have sm1 : Sm 11 (stepBy ss a).2.2 := stepBy_sm hs (hr'.ok a (List.mem_of_getElem? ex)).1
            have sm2 : Ok (rprod ((ring.take k).map (stepBy ss))) := (rprod_sm fun z hz => by
              obtain ⟨c, hc, rfl⟩ := List.mem_map.mp hz
              exact stepBy_sm hs (hr'.ok c (List.mem_of_mem_take hc)).1).mono (by
                rw [List.length_map, List.length_take]
                have : min k ring.length ≤ 100 := by omega
                omega)
            refine ⟨_, tg_tup rfl (tgA_cons tg_name (tgA_cons tg_name tgA_nil)), ?_⟩
            refine s_seq (s_ifF ((te_test (ev_op (ev_op (ev_var (d := encB3 (stepBy ss a)) rfl) ev_int (od_ixT rfl)) (ev_op (ev_var (d := encB3 (stepBy ss b)) rfl) ev_int (od_ixT rfl)) od_neI)).eq (by rw [adj]; simp)) (s_next ?_))
            refine s_set (ev_times (ev_var rfl) (ev_op (ev_var (d := encB3 (stepBy ss a)) rfl) ev_int (od_ixT rfl)) sm2 (sm1.mono (by decide))) ?_
            refine ⟨.d (encB3 (stepBy ss a)), .d (encB3 (stepBy ss b)), s7, ?_⟩
            rw [take_succ' ex, List.map_append, rprod_append]
            have : rprod (List.map (stepBy ss) [a]) = (stepBy ss a).2.2 := by show (stepBy ss a).2.2 * 1 = _; grind
            rw [this]
            rfl
      · rintro ρ ⟨s5, s6, s7, rfl⟩
        have lm : min (ring.map fun x => encB3 (stepBy ss x)).length ((ring.map fun x => encB3 (stepBy ss x)).drop 1 ++ (ring.map fun x => encB3 (stepBy ss x)).take 1).length = ring.length := by
          rw [List.length_append, List.length_drop, List.length_take, hrl]
          omega
        rw [lm, List.take_length]
        refine s_ret ((ev_op (ev_var rfl) (ev_O T) (od_neD (encR_shaped _) (encR_shaped _))).eq ?_) (.inl rfl)
        rw [encR_eqv, decide_eq_false hr'.prod]
        rfl
end
end K57
/-! D3: balls and walls, as plain functions -/
namespace K57
open PySem PySem.Spec PyProof.Rows L2 PD M
structure Ball where
  p : Rat
  s : Rat
  w : Nat
/-- a place and a speed -/
abbrev Th := Rat × Rat
abbrev Wl := Option Th
abbrev Ws := Wl × Wl
def Ball.th (b : Ball) : Th := (b.p, b.s)
def encT (a : Th) (r : List PyData) : PyData := .tuple (encR a.1 :: encR a.2 :: r)
def encB (b : Ball) : PyData := encT b.th [.int (b.w : Int)]
def encW : Wl → PyData
  | none => .none
  | some a => encT a []
def encWs (ws : Ws) : PyData := .tuple [encW ws.1, encW ws.2]
def goOn (a : Th) (t : Rat) : Th := (a.1 + a.2 * t, a.2)
def Ball.go (b : Ball) (t : Rat) : Ball := ⟨b.p + b.s * t, b.s, b.w⟩
def wlGo (a : Wl) (t : Rat) : Wl := a.map fun a => goOn a t
def wsGo (ws : Ws) (t : Rat) : Ws := (wlGo ws.1 t, wlGo ws.2 t)
def meet (a b : Th) : Option Rat := if b.2 < a.2 then some ((b.1 - a.1) / (a.2 - b.2)) else none
def things (row : List Ball) (ws : Ws) : List Th := ws.1.toList ++ row.map Ball.th ++ ws.2.toList
def better (best : Option Rat) : Option Rat → Option Rat
  | none => best
  | some t => match best with
    | none => some t
    | some b => if t < b then some t else some b
def leastUp (th : List Th) : Nat → Option Rat
  | 0 => none
  | k + 1 => match th[k]?, th[k + 1]? with
    | some a, some b => better (leastUp th k) (meet a b)
    | _, _ => leastUp th k
def least (th : List Th) : Option Rat := leastUp th (th.length - 1)
def shut : Ws → Option Rat
  | (some a, some b) => meet a b
  | _ => none
def atW (a : Wl) (p : Rat) : Bool := match a with
  | some a => decide (a.1 = p)
  | none => false
def wallThere (ws : Ws) (p : Rat) : Str := if atW ws.1 p then "low" else if atW ws.2 p then "high" else ""
def wallNamed (ws : Ws) (x : Str) : Wl := if x = "low" then ws.1 else if x = "high" then ws.2 else none
def below (s : Rat) (a : Wl) : Bool := match a with
  | some a => decide (s < a.2)
  | none => false
def above (s : Rat) (a : Wl) : Bool := match a with
  | some a => decide (a.2 < s)
  | none => false
def comesTo (s : Rat) (ws : Ws) (x : Str) : Bool := if x = "low" then below s ws.1 else decide (x = "high") && above s ws.2
structure Grp where
  first : Nat
  last : Nat
  wh : Str
def encG (g : Grp) : PyData := .tuple [.int (g.first : Int), .int (g.last : Int), .str g.wh]
def endsAt (row : List Ball) (k : Nat) : Bool := match row[k]?, row[k + 1]? with
  | some b, some c => !decide (c.p = b.p)
  | _, _ => true
def gUp (row : List Ball) (ws : Ws) : Nat → List Grp × Nat
  | 0 => ([], 0)
  | k + 1 => match row[k]? with
    | some b => if endsAt row k then ((if decide ((gUp row ws k).2 < k) || comesTo b.s ws (wallThere ws b.p) then (gUp row ws k).1 ++ [⟨(gUp row ws k).2, k, wallThere ws b.p⟩] else (gUp row ws k).1), k + 1) else gUp row ws k
    | none => gUp row ws k
def groups (row : List Ball) (ws : Ws) : List Grp := (gUp row ws row.length).1
def insR (x : Rat) : List Rat → List Rat
  | [] => [x]
  | y :: r => if y < x then y :: insR x r else x :: y :: r
def riseUp (l : List Rat) : Nat → List Rat
  | 0 => []
  | k + 1 => match l[k]? with
    | some x => insR x (riseUp l k)
    | none => riseUp l k
def rise (l : List Rat) : List Rat := riseUp l l.length
def two1 (a b : Ball) : Rat := a.s - ((2 * (b.w : Int) : Int) : Rat) * (a.s - b.s) / (((a.w : Int) + (b.w : Int) : Int) : Rat)
def two2 (a b : Ball) : Rat := b.s + ((2 * (a.w : Int) : Int) : Rat) * (a.s - b.s) / (((a.w : Int) + (b.w : Int) : Int) : Rat)
/-- speeds thrown back by a wall -/
def backBy (wl : Wl) (l : List Rat) : List Rat := match wl with
  | none => l
  | some a => l.map fun v => 2 * a.2 - v
def unlike (balls : List Ball) : Bool := match balls with
  | [] => false
  | b :: _ => balls.any fun c => !decide (c.w = b.w)
def together (balls : List Ball) (wl : Wl) : Option (List Rat) := match balls, wl with
  | [a, b], none => some [two1 a b, two2 a b]
  | _, _ => if decide (1 < balls.length) && unlike balls then none else some (rise (backBy wl (balls.map Ball.s)))
def slice (row : List Ball) (g : Grp) : List Ball := (row.drop g.first).take (g.last + 1 - g.first)
def putUp (f : List Ball) (first : Nat) (balls : List Ball) (sp : List Rat) : Nat → List Ball
  | 0 => f
  | k + 1 => match balls[k]?, sp[k]? with
    | some b, some v => (putUp f first balls sp k).set (first + k) ⟨b.p, v, b.w⟩
    | _, _ => putUp f first balls sp k
def rebUp (row : List Ball) (ws : Ws) (gs : List Grp) : Nat → Option (List Ball)
  | 0 => some row
  | k + 1 => match rebUp row ws gs k, gs[k]? with
    | some f, some g => match together (slice row g) (wallNamed ws g.wh) with
      | some sp => some (putUp f g.first (slice row g) sp sp.length)
      | none => none
    | r, _ => r
def rebound (row : List Ball) (ws : Ws) (gs : List Grp) : Option (List Ball) := rebUp row ws gs gs.length
/-- a coming: none, the walls meet, or a moment and its groups -/
inductive Com where
  | none | shut
  | at_ (t : Rat) (gs : List Grp)
def nextC (row : List Ball) (ws : Ws) : Com := match least (things row ws) with
  | none => .none
  | some t => if shut ws = some t then .shut else .at_ t (groups (row.map fun b => b.go t) (wsGo ws t))
inductive Beh where
  | none | shut | toge
  | at_ (t : Rat) (row : List Ball) (ws : Ws)
def behindC (row : List Ball) (ws : Ws) : Beh := match nextC row ws with
  | .none => .none
  | .shut => .shut
  | .at_ t gs => match rebound (row.map fun b => b.go t) (wsGo ws t) gs with
    | none => .toge
    | some r => .at_ t r (wsGo ws t)
/-! ### sizes -/
structure Sz (th : List Th) : Prop where
  p : ∀ a ∈ th, Sm 2100 a.1
  s : ∀ a ∈ th, Sm 620 a.2
  m : ∀ a ∈ th, ∀ b ∈ th, Sm 2600 ((b.1 - a.1) / (a.2 - b.2))
def SzW (row : List Ball) : Prop := ∀ b ∈ row, 0 < b.w ∧ b.w < 2 ^ 11
structure OkAt (a : Th) (t : Rat) : Prop where
  p : Ok a.1
  s : Ok a.2
  mo : Ok t
  st : Ok (a.2 * t)
theorem OkAt.of {a : Th} {t : Rat} (h1 : Sm 2100 a.1) (h2 : Sm 620 a.2) (h3 : Sm 2600 t) : OkAt a t := ⟨h1.mono (by decide), h2.mono (by decide), h3.mono (by decide), (h2.mul h3).mono (by decide)⟩
/-! ### the relations -/
def R_place_at : List PyData → Out → Prop := fun ds o => ∃ (a : Th) (r : List PyData) (t : Rat), ds = [encT a r, encR t] ∧ OkAt a t ∧ o = .rt (encR (a.1 + a.2 * t))
def R_gone_on : List PyData → Out → Prop := fun ds o => ∃ (a : Th) (r : List PyData) (t : Rat), ds = [encT a r, encR t] ∧ r.length ≤ 10 ∧ OkAt a t ∧ o = .rt (encT (goOn a t) r)
def OkW (a : Wl) (t : Rat) : Prop := ∀ b, a = some b → OkAt b t
def R_walls_at : List PyData → Out → Prop := fun ds o => ∃ (ws : Ws) (t : Rat), ds = [encWs ws, encR t] ∧ OkW ws.1 t ∧ OkW ws.2 t ∧ o = .rt (encWs (wsGo ws t))
structure OkM (a b : Th) : Prop where
  s1 : Ok a.2
  s2 : Ok b.2
  p1 : Ok a.1
  p2 : Ok b.1
  dp : Ok (b.1 - a.1)
  ds : Ok (a.2 - b.2)
def R_meeting_moment : List PyData → Out → Prop := fun ds o => ∃ (a b : Th) (r q : List PyData), ds = [encT a r, encT b q] ∧ OkM a b ∧ o = .rt (encO (meet a b))
theorem Sz.okm {th : List Th} (h : Sz th) {a b : Th} (ha : a ∈ th) (hb : b ∈ th) : OkM a b :=
  ⟨(h.s a ha).mono (by decide), (h.s b hb).mono (by decide), (h.p a ha).mono (by decide), (h.p b hb).mono (by decide), ((h.p b hb).sub (h.p a ha)).mono (by decide), ((h.s a ha).sub (h.s b hb)).mono (by decide)⟩
def R_least_moment : List PyData → Out → Prop := fun ds o => ∃ (row : List Ball) (ws : Ws), ds = [.tuple (row.map encB), encWs ws] ∧ row.length ≤ 10 ∧ Sz (things row ws) ∧ o = .rt (encO (least (things row ws)))
def R_shut_moment : List PyData → Out → Prop := fun ds o => ∃ (ws : Ws), ds = [encWs ws] ∧ (∀ a b, ws.1 = some a → ws.2 = some b → OkM a b) ∧ o = .rt (encO (shut ws))
def R_wall_there : List PyData → Out → Prop := fun ds o => ∃ (ws : Ws) (p : Rat), ds = [encWs ws, encR p] ∧ o = .rt (.str (wallThere ws p))
def R_wall_named : List PyData → Out → Prop := fun ds o => ∃ (ws : Ws) (x : Str), ds = [encWs ws, .str x] ∧ o = .rt (encW (wallNamed ws x))
def OkS (a : Wl) : Prop := ∀ b, a = some b → Ok b.2
def R_comes_to : List PyData → Out → Prop := fun ds o => ∃ (b : Ball) (ws : Ws) (x : Str), ds = [encB b, encWs ws, .str x] ∧ (x = "low" → ws.1 ≠ none) ∧ (x = "high" → ws.2 ≠ none) ∧ Ok b.s ∧ OkS ws.1 ∧ OkS ws.2 ∧ o = .rt (.bool (comesTo b.s ws x))
def R_groups_at : List PyData → Out → Prop := fun ds o => ∃ (row : List Ball) (ws : Ws), ds = [.list (row.map encB), encWs ws] ∧ row.length ≤ 10 ∧ (∀ b ∈ row, Ok b.s) ∧ OkS ws.1 ∧ OkS ws.2 ∧ o = .rt (.list ((groups row ws).map encG))
def R_rising : List PyData → Out → Prop := fun ds o => ∃ (l : List Rat), ds = [.list (l.map encR)] ∧ l.length ≤ 10 ∧ (∀ x ∈ l, Ok x) ∧ o = .rt (.list ((rise l).map encR))
def R_two_speeds : List PyData → Out → Prop := fun ds o => ∃ (a b : Ball), ds = [encB a, encB b] ∧ Sm 2000 a.s ∧ Sm 2000 b.s ∧ 0 < a.w ∧ a.w < 2 ^ 11 ∧ 0 < b.w ∧ b.w < 2 ^ 11 ∧ o = .rt (.list [encR (two1 a b), encR (two2 a b)])
def outT (cT : Addr) : Option (List Rat) → Out
  | none => .ex cT
  | some l => .rt (.list (l.map encR))
def R_together_speeds (cT : Addr) : List PyData → Out → Prop := fun ds o => ∃ (balls : List Ball) (wl : Wl) (t : Rat), ds = [.list (balls.map encB), encW wl, encR t] ∧ 0 < balls.length ∧ balls.length ≤ 10 ∧ SzW balls ∧ (∀ b ∈ balls, Sm 2000 b.s) ∧ (∀ a, wl = some a → Sm 2000 a.2) ∧ o = outT cT (together balls wl)
/-- groups one behind the other -/
structure Inc (n : Nat) (gs : List Grp) : Prop where
  ok : ∀ g ∈ gs, g.first ≤ g.last ∧ g.last < n
  inc : ∀ (k : Nat) (g h : Grp), gs[k]? = some g → gs[k + 1]? = some h → g.last < h.first
def outB (cT : Addr) : Option (List Ball) → Out
  | none => .ex cT
  | some l => .rt (.tuple (l.map encB))
def R_rebounded (cT : Addr) : List PyData → Out → Prop := fun ds o => ∃ (row : List Ball) (ws : Ws) (gs : List Grp) (t : Rat), ds = [.list (row.map encB), encWs ws, .list (gs.map encG), encR t] ∧ row.length ≤ 10 ∧ gs.length ≤ 10 ∧ SzW row ∧ (∀ b ∈ row, Sm 2000 b.s) ∧ (∀ a, ws.1 = some a → Sm 2000 a.2) ∧ (∀ a, ws.2 = some a → Sm 2000 a.2) ∧ Inc row.length gs ∧
  o = outB cT (rebound row ws gs)
def outC (cS : Addr) : Com → Out
  | .none => .rt .none
  | .shut => .ex cS
  | .at_ t gs => .rt (.tuple [encR t, .list (gs.map encG)])
def outBeh (cT cS : Addr) : Beh → Out
  | .none => .rt .none
  | .shut => .ex cS
  | .toge => .ex cT
  | .at_ t r ws => .rt (.tuple [encR t, .tuple (r.map encB), encWs ws])
structure RowOk (row : List Ball) (ws : Ws) : Prop where
  len : row.length ≤ 10
  sz : Sz (things row ws)
  w : SzW row
def R_next_coming (cS : Addr) : List PyData → Out → Prop := fun ds o => ∃ (row : List Ball) (ws : Ws), ds = [.tuple (row.map encB), encWs ws] ∧ RowOk row ws ∧ o = outC cS (nextC row ws)
def R_behind (cT cS : Addr) : List PyData → Out → Prop := fun ds o => ∃ (row : List Ball) (ws : Ws), ds = [.tuple (row.map encB), encWs ws] ∧ RowOk row ws ∧ o = outBeh cT cS (behindC row ws)
end K57
/-! F4: rows and comings, the first half -/
namespace K57
open PySem PySem.Spec PyProof.Rows L2 PD M
section
variable {P : Program} {w : World} {K : PySem.W.Frag} {mg : Str → Option Value} {base : Heap}
theorem ev_pl {M : Addr → Prop} {ρ : List Sl} {te tj : TE} {a : Th} {r : List PyData} (h : Ev K M te ρ (encT a r)) (hj : Ev K M tj ρ (.int 0)) : Ev K M (tOp (rIxT K) te tj) ρ (encR a.1) := ev_op h hj (od_ixT (atI_nat (j := 0) rfl))
theorem ev_sp {M : Addr → Prop} {ρ : List Sl} {te tj : TE} {a : Th} {r : List PyData} (h : Ev K M te ρ (encT a r)) (hj : Ev K M tj ρ (.int 1)) : Ev K M (tOp (rIxT K) te tj) ρ (encR a.2) := ev_op h hj (od_ixT (atI_nat (j := 1) rfl))
theorem ev_we {M : Addr → Prop} {ρ : List Sl} {te tj : TE} {b : Ball} (h : Ev K M te ρ (encB b)) (hj : Ev K M tj ρ (.int 2)) : Ev K M (tOp (rIxT K) te tj) ρ (.int (b.w : Int)) := ev_op h hj (od_ixT rfl)
theorem ev_lo {M : Addr → Prop} {ρ : List Sl} {te tj : TE} {ws : Ws} (h : Ev K M te ρ (encWs ws)) (hj : Ev K M tj ρ (.int 0)) : Ev K M (tOp (rIxT K) te tj) ρ (encW ws.1) := ev_op h hj (od_ixT rfl)
theorem ev_hi {M : Addr → Prop} {ρ : List Sl} {te tj : TE} {ws : Ws} (h : Ev K M te ρ (encWs ws)) (hj : Ev K M tj ρ (.int 1)) : Ev K M (tOp (rIxT K) te tj) ρ (encW ws.2) := ev_op h hj (od_ixT rfl)
theorem sc_place_at : FnScope ["thing", "t"] ["thing", "t"] (defScope (top 34)) := ⟨rfl, rfl, rfl, by decide +kernel, rfl, by decide +kernel, by decide +kernel⟩
theorem ok_place_at {f aN aO : Addr} {fd : FuncData} (T : Txt K mg aN aO)  (C_plus : Cal P w K mg base CX0 3 "plus" ["one", "other"] [] (spF K R_plus)) (C_times : Cal P w K mg base CX0 3 "times" ["one", "other"] [] (spF K R_times))  (F : FunD K "place_at" "place_at" (defArgs (top 34)) (defBody (top 34)) (defScope (top 34)) [] [] f fd) : FnOk P w K mg base CX0 4 f fd ["thing", "t"] (spF K R_place_at) := by
  refine ok_def F sc_place_at (fun ds o h => ?_) (fun cdv A outer s H W hr => ⟨_, (pss_one (ps_ret (pe_cal C_plus (hr.mono (by decide)) pass0 (pa_cons (pe_ix ix_tup (pv 0) (pe_gint T.cPLACE) (fun _ _ => rfl)) (pa_cons (pe_cal C_times (hr.mono (by decide)) pass0 (pa_cons (pe_ix ix_tup (pv 0) (pe_gint T.cSPEED) (fun _ _ => rfl)) (pa_cons (pv 1) pa_nil))) pa_nil))))), fun ds o h => ?_⟩)
  · obtain ⟨a, r, t, rfl, _, rfl⟩ := h
    exact ⟨rfl, .inl ⟨_, rfl⟩⟩
  · obtain ⟨a, r, t, rfl, ha, rfl⟩ := h
    exact s_ret (ev_plus (ev_pl (r := r) (ev_var rfl) ev_int) (ev_times (ev_sp (r := r) (ev_var rfl) ev_int) (ev_var rfl) ha.s ha.mo) ha.p ha.st) (.inl rfl)
theorem sc_gone_on : FnScope ["thing", "t"] ["thing", "t"] (defScope (top 35)) := ⟨rfl, rfl, rfl, by decide +kernel, rfl, by decide +kernel, by decide +kernel⟩
theorem ok_gone_on {f aN aO : Addr} {fd : FuncData} (T : Txt K mg aN aO)  (C_place_at : Cal P w K mg base CX0 4 "place_at" ["thing", "t"] [] (spF K R_place_at))  (F : FunD K "gone_on" "gone_on" (defArgs (top 35)) (defBody (top 35)) (defScope (top 35)) [] [] f fd) : FnOk P w K mg base CX0 5 f fd ["thing", "t"] (spF K R_gone_on) := by
  refine ok_def F sc_gone_on (fun ds o h => ?_) (fun cdv A outer s H W hr => ⟨_, (pss_one (ps_ret (pe_op op_catT (pe_tup (pa_cons (pe_cal C_place_at (hr.mono (by decide)) pass0 (pa_cons (pv 0) (pa_cons (pv 1) pa_nil))) pa_nil)) (pe_slice sl_tup (pv 0) (po_some pe_int) po_none)))), fun ds o h => ?_⟩)
  · obtain ⟨a, r, t, rfl, _, _, rfl⟩ := h
    exact ⟨rfl, .inl ⟨_, rfl⟩⟩
  · obtain ⟨a, r, t, rfl, hl, ha, rfl⟩ := h
    have hc : cutL (encR a.1 :: encR a.2 :: r) (some 1) none = encR a.2 :: r := (cut_all _ (by simp)).1
    have hn : ¬ (HT.sIx (encR a.1 :: encR a.2 :: r).length 0 (some 1) = 0 ∧ HT.sIx (encR a.1 :: encR a.2 :: r).length (encR a.1 :: encR a.2 :: r).length none = (encR a.1 :: encR a.2 :: r).length) := fun z => by
      have z1 := z.1
      rw [show HT.sIx (encR a.1 :: encR a.2 :: r).length 0 (some 1) = min 1 (encR a.1 :: encR a.2 :: r).length from HT.sIx_nat _ 0 1] at z1
      simp at z1
    refine s_ret (ev_op (ev_tup (ag_cons (ev_fn (ag_cons (ev_var rfl) (ag_cons (ev_var rfl) ag_nil)) ⟨a, r, t, rfl, ha, rfl⟩) ag_nil)) (Ev.eq (d' := .tuple (encR a.2 :: r)) (ev_slT (xs := encR a.1 :: encR a.2 :: r) (ev_var rfl) (pr_some ev_int) pr_none hn) (by rw [hc])) (od_catT (by simp; omega))) (.inl rfl)
theorem sc_walls_at : FnScope ["walls", "t", "found", "wall"] ["walls", "t"] (defScope (top 36)) := ⟨rfl, rfl, rfl, by decide +kernel, rfl, by decide +kernel, by decide +kernel⟩
theorem ok_walls_at {f aN aO : Addr} {fd : FuncData} (T : Txt K mg aN aO)  (C_gone_on : Cal P w K mg base CX0 5 "gone_on" ["thing", "t"] [] (spF K R_gone_on))  (F : FunD K "walls_at" "walls_at" (defArgs (top 36)) (defBody (top 36)) (defScope (top 36)) [] [] f fd) : FnOk P w K mg base CX0 6 f fd ["walls", "t"] (spF K R_walls_at) := by
  refine ok_def F sc_walls_at (fun ds o h => ?_) (fun cdv A outer s H W hr => ⟨_, (pss_cons (ps_set (i := 2) sc_walls_at.nd rfl (Or.inl rfl) (pe_lst pa_nil))
      (pss_cons (ps_for (passes_of rfl) rfl (pi_tup (pv 0)) (pg_name (i := 3) sc_walls_at.nd rfl (Or.inl rfl)) (pss_cons (ps_if (pt_cmpR op_notN (pv 3) pe_non (nomark _)) (pss_one (ps_set (i := 3) sc_walls_at.nd rfl (Or.inl rfl) (pe_cal C_gone_on (hr.mono (by decide)) pass0 (pa_cons (pv 3) (pa_cons (pv 1) pa_nil))))) pss_nil)
      (pss_one (ps_expr (pe_bm PySem.F.plainAttrs_list PySem.F.slot_list_append PySem.F.type_list_append mt_append (pv 2) (pa_cons (pv 3) pa_nil))))))
      (pss_one (ps_ret (pe_callTy call_tuple_of (by rfl) T.f_tuple (by decide +kernel) (pa_cons (pv 2) pa_nil)))))), fun ds o h => ?_⟩)
  · obtain ⟨ws, t, rfl, _, _, rfl⟩ := h
    exact ⟨rfl, .inl ⟨_, rfl⟩⟩
  · obtain ⟨ws, t, rfl, h1, h2, rfl⟩ := h
    refine s_seq (s_setL (el_lst ag_nil) ?_)
    refine s_seq (s_forT (xs := [encW ws.1, encW ws.2]) (fun k ρ => ∃ s3, ρ = [.d (encWs ws), .d (encR t), .l ([encW (wlGo ws.1 t), encW (wlGo ws.2 t)].take k), s3]) (ev_var rfl) ⟨_, rfl⟩ ?_ ?_)
    · rintro k x ρ hx ⟨s3, rfl⟩
      have key : ∀ (a : Wl) (done : List PyData), OkW a t → done.length < 10 → ∀ Φ : Out → Prop, Φ (.nx [.d (encWs ws), .d (encR t), .l (done ++ [encW (wlGo a t)]), .d (encW (wlGo a t))]) → ∃ ρ2, Tg K (fun _ => False) (gName 3) [.d (encWs ws), .d (encR t), .l done, s3] (encW a) ρ2 ∧
          S K (fun _ => False) W (tSeq (tIfS (tTest (tOp (fun x y H Q => y = .non ∧ Q (.bl (!decide (x = .non))) H) (tVar 3) (tC .non))) (tAsg (tCall (spF K R_gone_on) [] E0 (tCons (tVar 3) (tCons (tVar 1) tNil))) (gName 3)) tNext) (tDrop (tBM K "list" rAppend (tVar 2) (tCons (tVar 3) tNil)))) ρ2 Φ := by
        intro a done ha hd Φ hq
        refine ⟨_, tg_name, ?_⟩
        cases a with
        | none =>
          refine s_seq (s_ifF (te_test (ev_op (ev_var rfl) ev_non od_notN)) (s_next ?_))
          exact s_append rfl (ev_var rfl) (by omega) hq
        | some b =>
          refine s_seq (s_ifT (te_test (ev_op (ev_var rfl) ev_non od_notN)) (s_set (ev_fn (ag_cons (ev_var rfl) (ag_cons (ev_var rfl) ag_nil)) ⟨b, [], t, rfl, by decide, ha b rfl, rfl⟩) ?_))
          exact s_append rfl (ev_var rfl) (by omega) hq
      match k, hx with
      | 0, hx =>
        cases hx
        exact key ws.1 [] h1 (by decide) _ ⟨_, rfl⟩
      | 1, hx =>
        cases hx
        exact key ws.2 [encW (wlGo ws.1 t)] h2 (show 1 < 10 by decide) _ ⟨_, rfl⟩
      | k + 2, hx => simp at hx
    · rintro ρ ⟨s3, rfl⟩
      exact s_freeze (i := 2) rfl (s_ret (ev_cb (ag_cons (ev_var rfl) ag_nil) cb_tupleL) (.inl rfl))
theorem sc_meeting_moment : FnScope ["left", "right"] ["left", "right"] (defScope (top 38)) := ⟨rfl, rfl, rfl, by decide +kernel, rfl, by decide +kernel, by decide +kernel⟩
theorem ok_meeting_moment {f aN aO : Addr} {fd : FuncData} (T : Txt K mg aN aO)  (C_over : Cal P w K mg base CX0 3 "over" ["one", "other"] [] (spF K R_over)) (C_less : Cal P w K mg base CX0 1 "less" ["one", "other"] [] (spF K R_less)) (C_minus : Cal P w K mg base CX0 3 "minus" ["one", "other"] [] (spF K R_minus))  (F : FunD K "meeting_moment" "meeting_moment" (defArgs (top 38)) (defBody (top 38)) (defScope (top 38)) [] [] f fd) : FnOk P w K mg base CX0 4 f fd ["left", "right"] (spF K R_meeting_moment) := by
  refine ok_def F sc_meeting_moment (fun ds o h => ?_) (fun cdv A outer s H W hr => ⟨_, (pss_cons (ps_if (pt_not (pt_val (pe_cal C_less (hr.mono (by decide)) pass0 (pa_cons (pe_ix ix_tup (pv 1) (pe_gint T.cSPEED) (fun _ _ => rfl)) (pa_cons (pe_ix ix_tup (pv 0) (pe_gint T.cSPEED) (fun _ _ => rfl)) pa_nil))))) (pss_one (ps_ret pe_non)) pss_nil)
      (pss_one (ps_ret (pe_cal C_over (hr.mono (by decide)) pass0 (pa_cons (pe_cal C_minus (hr.mono (by decide)) pass0 (pa_cons (pe_ix ix_tup (pv 1) (pe_gint T.cPLACE) (fun _ _ => rfl)) (pa_cons (pe_ix ix_tup (pv 0) (pe_gint T.cPLACE) (fun _ _ => rfl)) pa_nil))) (pa_cons (pe_cal C_minus (hr.mono (by decide)) pass0 (pa_cons (pe_ix ix_tup (pv 0) (pe_gint T.cSPEED) (fun _ _ => rfl)) (pa_cons (pe_ix ix_tup (pv 1) (pe_gint T.cSPEED) (fun _ _ => rfl)) pa_nil))) pa_nil)))))), fun ds o h => ?_⟩)
  · obtain ⟨a, b, r, q, rfl, _, rfl⟩ := h
    exact ⟨rfl, .inl ⟨_, rfl⟩⟩
  · obtain ⟨a, b, r, q, rfl, hm, rfl⟩ := h
    refine s_seq (s_if (te_not (te_val (ev_less (ev_sp (r := q) (ev_var rfl) ev_int) (ev_sp (r := r) (ev_var rfl) ev_int) hm.s2 hm.s1))) (fun c => ?_) fun c => s_next ?_)
    · have c1 : ¬ b.2 < a.2 := by simpa using c
      refine s_ret ev_non (.inl ?_)
      unfold meet
      rw [if_neg c1]
      rfl
    · have c1 : b.2 < a.2 := by simpa using c
      have h0 : a.2 - b.2 ≠ 0 := by grind
      refine s_ret (ev_over (ev_minus (ev_pl (r := q) (ev_var rfl) ev_int) (ev_pl (r := r) (ev_var rfl) ev_int) hm.p2 hm.p1) (ev_minus (ev_sp (r := r) (ev_var rfl) ev_int) (ev_sp (r := q) (ev_var rfl) ev_int) hm.s1 hm.s2) hm.dp hm.ds h0) (.inl ?_)
      unfold meet
      rw [if_pos c1]
      rfl
theorem sc_shut_moment : FnScope ["walls"] ["walls"] (defScope (top 40)) := ⟨rfl, rfl, rfl, by decide +kernel, rfl, by decide +kernel, by decide +kernel⟩
theorem ok_shut_moment {f aN aO : Addr} {fd : FuncData} (T : Txt K mg aN aO)  (C_meeting_moment : Cal P w K mg base CX0 4 "meeting_moment" ["left", "right"] [] (spF K R_meeting_moment))  (F : FunD K "shut_moment" "shut_moment" (defArgs (top 40)) (defBody (top 40)) (defScope (top 40)) [] [] f fd) : FnOk P w K mg base CX0 5 f fd ["walls"] (spF K R_shut_moment) := by
  refine ok_def F sc_shut_moment (fun ds o h => ?_) (fun cdv A outer s H W hr => ⟨_, (pss_cons (ps_if (PW.pt (pw_or (pt_cmpR op_isN (pe_ix ix_tup (pv 0) (pe_gint T.cLOW) (fun _ _ => rfl)) pe_non (nomark _)) (pw_or1 (pt_cmpR op_isN (pe_ix ix_tup (pv 0) (pe_gint T.cHIGH) (fun _ _ => rfl)) pe_non (nomark _))))) (pss_one (ps_ret pe_non)) pss_nil)
      (pss_one (ps_ret (pe_cal C_meeting_moment (hr.mono (by decide)) pass0 (pa_cons (pe_ix ix_tup (pv 0) (pe_gint T.cLOW) (fun _ _ => rfl)) (pa_cons (pe_ix ix_tup (pv 0) (pe_gint T.cHIGH) (fun _ _ => rfl)) pa_nil)))))), fun ds o h => ?_⟩)
  · obtain ⟨ws, rfl, _, rfl⟩ := h
    exact ⟨rfl, .inl ⟨_, rfl⟩⟩
  · obtain ⟨⟨lo, hi⟩, rfl, hm, rfl⟩ := h
    cases lo with
    | none =>
      refine s_seq (s_ifT (te_or (c := true) (e := false) (te_test (ev_op (ev_lo (ws := (none, hi)) (ev_var rfl) ev_int) ev_non od_isN)) fun z => nomatch z) (s_ret ev_non (.inl rfl)))
    | some a =>
      cases hi with
      | none =>
        refine s_seq (s_ifT (te_or (c := false) (e := true) (te_test (ev_op (ev_lo (ws := (some a, none)) (ev_var rfl) ev_int) ev_non od_isN)) fun z => (te_test (ev_op (ev_hi (ws := (some a, none)) (ev_var rfl) ev_int) ev_non od_isN))) (s_ret ev_non (.inl rfl)))
      | some b =>
        refine s_seq (s_ifF (te_or (c := false) (e := false) (te_test (ev_op (ev_lo (ws := (some a, some b)) (ev_var rfl) ev_int) ev_non od_isN)) fun z => (te_test (ev_op (ev_hi (ws := (some a, some b)) (ev_var rfl) ev_int) ev_non od_isN))) (s_next ?_))
        exact s_ret (ev_fn (ag_cons (ev_lo (ws := (some a, some b)) (ev_var rfl) ev_int) (ag_cons (ev_hi (ws := (some a, some b)) (ev_var rfl) ev_int) ag_nil)) ⟨a, b, [], [], rfl, hm a b rfl rfl, rfl⟩) (.inl rfl)
theorem te_atW {M : Addr → Prop} {ρ : List Sl} {te tp : TE} {t0 : TE} {a : Wl} {p : Rat} (h : Ev K M te ρ (encW a)) (h0 : Ev K M t0 ρ (.int 0)) (hp : Ev K M tp ρ (encR p)) : Te K M (tAnd (tTest (tOp (fun x y H Q => y = .non ∧ Q (.bl (!decide (x = .non))) H) te (tC .non))) (tTest (tOp (rEqD K) (tOp (rIxT K) te t0) tp))) ρ (atW a p) := by
  cases a with
  | none => exact te_and (c := false) (e := false) (te_test (ev_op h ev_non od_notN)) fun z => nomatch z
  | some b =>
    have := te_and (c := true) (te_test (ev_op h ev_non od_notN)) fun _ => te_test (ev_op (ev_pl (r := []) h h0) hp (od_eqD (encR_shaped _) (encR_shaped _)))
    rw [encR_eqv] at this
    exact this
theorem sc_wall_there : FnScope ["walls", "place"] ["walls", "place"] (defScope (top 41)) := ⟨rfl, rfl, rfl, by decide +kernel, rfl, by decide +kernel, by decide +kernel⟩
theorem ok_wall_there {f aN aO : Addr} {fd : FuncData} (T : Txt K mg aN aO)    (F : FunD K "wall_there" "wall_there" (defArgs (top 41)) (defBody (top 41)) (defScope (top 41)) [] [] f fd) : FnOk P w K mg base CX0 1 f fd ["walls", "place"] (spF K R_wall_there) := by
  refine ok_def F sc_wall_there (fun ds o h => ?_) (fun cdv A outer s H W hr => ⟨_, (pss_cons (ps_if (PW.pt (pw_and (pt_cmpR op_notN (pe_ix ix_tup (pv 0) (pe_gint T.cLOW) (fun _ _ => rfl)) pe_non (nomark _)) (pw_and1 (pt_cmpR (op_eqD hr.units) (pe_ix ix_tup (pe_ix ix_tup (pv 0) (pe_gint T.cLOW) (fun _ _ => rfl)) (pe_gint T.cPLACE) (fun _ _ => rfl)) (pv 1) (nomark _))))) (pss_one (ps_ret pe_str)) pss_nil)
      (pss_cons (ps_if (PW.pt (pw_and (pt_cmpR op_notN (pe_ix ix_tup (pv 0) (pe_gint T.cHIGH) (fun _ _ => rfl)) pe_non (nomark _)) (pw_and1 (pt_cmpR (op_eqD hr.units) (pe_ix ix_tup (pe_ix ix_tup (pv 0) (pe_gint T.cHIGH) (fun _ _ => rfl)) (pe_gint T.cPLACE) (fun _ _ => rfl)) (pv 1) (nomark _))))) (pss_one (ps_ret pe_str)) pss_nil)
      (pss_one (ps_ret pe_str)))), fun ds o h => ?_⟩)
  · obtain ⟨ws, p, rfl, rfl⟩ := h
    exact ⟨rfl, .inl ⟨_, rfl⟩⟩
  · obtain ⟨ws, p, rfl, rfl⟩ := h
    refine s_seq (s_if (te_atW (ev_lo (ev_var rfl) ev_int) ev_int (ev_var rfl)) (fun c => ?_) fun c => s_next ?_)
    · refine s_ret ev_str (.inl ?_)
      unfold wallThere
      rw [if_pos c]
    · refine s_seq (s_if (te_atW (ev_hi (ev_var rfl) ev_int) ev_int (ev_var rfl)) (fun c2 => ?_) fun c2 => s_next ?_)
      · refine s_ret ev_str (.inl ?_)
        unfold wallThere
        rw [if_neg (by rw [c]; decide), if_pos c2]
      · refine s_ret ev_str (.inl ?_)
        unfold wallThere
        rw [if_neg (by rw [c]; decide), if_neg (by rw [c2]; decide)]
theorem sc_wall_named : FnScope ["walls", "where"] ["walls", "where"] (defScope (top 42)) := ⟨rfl, rfl, rfl, by decide +kernel, rfl, by decide +kernel, by decide +kernel⟩
theorem ok_wall_named {f aN aO : Addr} {fd : FuncData} (T : Txt K mg aN aO)    (F : FunD K "wall_named" "wall_named" (defArgs (top 42)) (defBody (top 42)) (defScope (top 42)) [] [] f fd) : FnOk P w K mg base CX0 1 f fd ["walls", "where"] (spF K R_wall_named) := by
  refine ok_def F sc_wall_named (fun ds o h => ?_) (fun cdv A outer s H W hr => ⟨_, (pss_cons (ps_if (pt_cmpR op_eq (pv 1) pe_str (nomark _)) (pss_one (ps_ret (pe_ix ix_tup (pv 0) (pe_gint T.cLOW) (fun _ _ => rfl)))) pss_nil)
      (pss_cons (ps_if (pt_cmpR op_eq (pv 1) pe_str (nomark _)) (pss_one (ps_ret (pe_ix ix_tup (pv 0) (pe_gint T.cHIGH) (fun _ _ => rfl)))) pss_nil)
      (pss_one (ps_ret pe_non)))), fun ds o h => ?_⟩)
  · obtain ⟨ws, x, rfl, rfl⟩ := h
    exact ⟨rfl, .inl ⟨_, rfl⟩⟩
  · obtain ⟨ws, x, rfl, rfl⟩ := h
    refine s_seq (s_if (te_test (ev_op (ev_var rfl) ev_str od_eqS)) (fun c => ?_) fun c => s_next ?_)
    · refine s_ret (ev_lo (ev_var rfl) ev_int) (.inl ?_)
      unfold wallNamed
      rw [if_pos (of_decide_eq_true c)]
    · refine s_seq (s_if (te_test (ev_op (ev_var rfl) ev_str od_eqS)) (fun c2 => ?_) fun c2 => s_next ?_)
      · refine s_ret (ev_hi (ev_var rfl) ev_int) (.inl ?_)
        unfold wallNamed
        rw [if_neg (of_decide_eq_false c), if_pos (of_decide_eq_true c2)]
      · refine s_ret ev_non (.inl ?_)
        unfold wallNamed
        rw [if_neg (of_decide_eq_false c), if_neg (of_decide_eq_false c2)]
        rfl
theorem sc_comes_to : FnScope ["ball", "walls", "where"] ["ball", "walls", "where"] (defScope (top 43)) := ⟨rfl, rfl, rfl, by decide +kernel, rfl, by decide +kernel, by decide +kernel⟩
theorem ok_comes_to {f aN aO : Addr} {fd : FuncData} (T : Txt K mg aN aO)  (C_less : Cal P w K mg base CX0 1 "less" ["one", "other"] [] (spF K R_less))  (F : FunD K "comes_to" "comes_to" (defArgs (top 43)) (defBody (top 43)) (defScope (top 43)) [] [] f fd) : FnOk P w K mg base CX0 2 f fd ["ball", "walls", "where"] (spF K R_comes_to) := by
  refine ok_def F sc_comes_to (fun ds o h => ?_) (fun cdv A outer s H W hr => ⟨_, (pss_cons (ps_if (pt_cmpR op_eq (pv 2) pe_str (nomark _)) (pss_one (ps_ret (pe_cal C_less (hr.mono (by decide)) pass0 (pa_cons (pe_ix ix_tup (pv 0) (pe_gint T.cSPEED) (fun _ _ => rfl)) (pa_cons (pe_ix ix_tup (pe_ix ix_tup (pv 1) (pe_gint T.cLOW) (fun _ _ => rfl)) (pe_gint T.cSPEED) (fun _ _ => rfl)) pa_nil))))) pss_nil)
      (pss_one (ps_ret (pe_and (pe_cmpR op_eq (pv 2) pe_str (nomark _)) (pe_one (pe_cal C_less (hr.mono (by decide)) pass0 (pa_cons (pe_ix ix_tup (pe_ix ix_tup (pv 1) (pe_gint T.cHIGH) (fun _ _ => rfl)) (pe_gint T.cSPEED) (fun _ _ => rfl)) (pa_cons (pe_ix ix_tup (pv 0) (pe_gint T.cSPEED) (fun _ _ => rfl)) pa_nil)))))))), fun ds o h => ?_⟩)
  · obtain ⟨b, ws, x, rfl, _, _, _, _, _, rfl⟩ := h
    exact ⟨rfl, .inl ⟨_, rfl⟩⟩
  · obtain ⟨b, ⟨lo, hi⟩, x, rfl, n1, n2, hb, o1, o2, rfl⟩ := h
    refine s_seq (s_if (te_test (ev_op (ev_var rfl) ev_str od_eqS)) (fun c => ?_) fun c => s_next ?_)
    · have c := of_decide_eq_true c
      cases lo with
      | none => exact absurd rfl (n1 c)
      | some a =>
        refine s_ret (ev_less (ev_sp (a := b.th) (r := [.int (b.w : Int)]) (ev_var rfl) ev_int) (ev_sp (a := a) (r := []) (ev_lo (ws := (some a, hi)) (ev_var rfl) ev_int) ev_int) hb (o1 a rfl)) (.inl ?_)
        unfold comesTo
        rw [if_pos c]
        rfl
    · have c := of_decide_eq_false c
      have fin : ∀ c2 : Bool, decide (x = "high") = c2 → Ev K (fun _ => False) (tAndV (tOp rEq (tVar 2) (tC (.str "high"))) (tCall (spF K R_less) [] E0 (tCons (tOp (rIxT K) (tOp (rIxT K) (tVar 1) (tC (.int 1))) (tC (.int 1))) (tCons (tOp (rIxT K) (tVar 0) (tC (.int 1))) tNil)))) [.d (encB b), .d (encWs (lo, hi)), .d (.str x)] (.bool (comesTo b.s (lo, hi) x)) := by
        intro c2 hc2
        unfold comesTo
        rw [if_neg c]
        refine ev_and (ev_op (ev_var rfl) ev_str od_eqS) fun z => ?_
        have z := of_decide_eq_true z
        cases hi with
        | none => exact absurd rfl (n2 z)
        | some a => exact ev_less (ev_sp (a := a) (r := []) (ev_hi (ws := (lo, some a)) (ev_var rfl) ev_int) ev_int) (ev_sp (a := b.th) (r := [.int (b.w : Int)]) (ev_var rfl) ev_int) (o2 a rfl) hb
      exact s_ret (fin _ rfl) (.inl rfl)
end
end K57
/-! F5: rows and comings, least moments, groups, rising speeds -/
namespace K57
open PySem PySem.Spec PyProof.Rows L2 PD M
section
variable {P : Program} {w : World} {K : PySem.W.Frag} {mg : Str → Option Value} {base : Heap}
def encThings (row : List Ball) (ws : Ws) : List PyData := (ws.1.toList.map fun a => encT a []) ++ row.map encB ++ ws.2.toList.map fun a => encT a []
theorem encThings_len (row : List Ball) (ws : Ws) : (encThings row ws).length = (things row ws).length := by
  unfold encThings things
  simp only [List.length_append, List.length_map]
theorem get_enc {α : Type} {as : List α} {f : α → PyData} {g : α → Th} {r : α → List PyData} (h : ∀ a, f a = encT (g a) (r a)) {k : Nat} {x : PyData} (e : (as.map f)[k]? = some x) : ∃ a q, (as.map g)[k]? = some a ∧ x = encT a q := by
  rw [List.getElem?_map] at e ⊢
  cases c : as[k]? with
  | none => rw [c] at e; cases e
  | some b =>
    rw [c] at e
    cases e
    exact ⟨g b, r b, rfl, h b⟩
theorem encThings_get {row : List Ball} {ws : Ws} {k : Nat} {x : PyData} (e : (encThings row ws)[k]? = some x) : ∃ a r, (things row ws)[k]? = some a ∧ x = encT a r := by
  unfold encThings at e
  unfold things
  have l1 : (ws.1.toList.map fun a => encT a []).length = ws.1.toList.length := List.length_map _
  have l2 : (row.map encB).length = (row.map Ball.th).length := by rw [List.length_map, List.length_map]
  have key1 : ∀ {l : Wl} {k : Nat} {x : PyData}, (l.toList.map fun a => encT a [])[k]? = some x → ∃ a r, l.toList[k]? = some a ∧ x = encT a r := fun {l k x} e => by
    obtain ⟨a, q, h1, h2⟩ := get_enc (g := id) (r := fun _ => []) (fun _ => rfl) e
    rw [List.map_id] at h1
    exact ⟨a, q, h1, h2⟩
  by_cases h1 : k < (ws.1.toList ++ row.map Ball.th).length
  · rw [List.getElem?_append_left h1]
    have h1' : k < ((ws.1.toList.map fun a => encT a []) ++ row.map encB).length := by
      rw [List.length_append] at h1 ⊢
      omega
    rw [List.getElem?_append_left h1'] at e
    by_cases h2 : k < ws.1.toList.length
    · rw [List.getElem?_append_left h2]
      rw [List.getElem?_append_left (by omega)] at e
      exact key1 e
    · rw [List.getElem?_append_right (by omega)]
      rw [List.getElem?_append_right (by omega), l1] at e
      exact get_enc (f := encB) (g := Ball.th) (r := fun b => [.int (b.w : Int)]) (fun _ => rfl) e
  · rw [List.getElem?_append_right (by omega)]
    have h1' : ((ws.1.toList.map fun a => encT a []) ++ row.map encB).length = (ws.1.toList ++ row.map Ball.th).length := by
      rw [List.length_append, List.length_append]
      omega
    rw [List.getElem?_append_right (by omega), h1'] at e
    exact key1 e
theorem el_filt {M : Addr → Prop} {ρ : List Sl} {te : TE} {a : Wl} {i : Nat} (h : Ev K M te ρ (.tuple [encW a])) (hi : i < ρ.length) : EL K M (tLc (iTup K te) (gName i) (tTest (tOp (fun x y H Q => y = .non ∧ Q (.bl (!decide (x = .non))) H) (tVar i) (tC .non))) (tVar i) [i]) ρ (a.toList.map fun a => encT a []) := by
  have gi : ∀ d : Sl, ((wipeS ρ [i]).set i d)[i]? = some d := fun d => List.getElem?_set_self (by show i < (ρ.set i .u).length; rw [List.length_set]; exact hi)
  cases a with
  | none =>
    have q := el_lcT (g := gName i) (tt := tTest (tOp (fun x y H Q => y = .non ∧ Q (.bl (!decide (x = .non))) H) (tVar i) (tC .non))) (tel := tVar i) (vs := [i]) (fun _ => false) (fun _ => .none) h (by simp) fun k x hx => ?_
    · exact q
    · have : x = .none := by
        match k, hx with
        | 0, hx => exact (Option.some.inj hx).symm
        | k + 1, hx => simp at hx
      subst this
      exact ⟨_, te_name List.mem_cons_self, te_test (ev_op (ev_var (gi _)) ev_non od_notN), fun z => nomatch z⟩
  | some b =>
    have q := el_lcT (g := gName i) (tt := tTest (tOp (fun x y H Q => y = .non ∧ Q (.bl (!decide (x = .non))) H) (tVar i) (tC .non))) (tel := tVar i) (vs := [i]) (fun _ => true) (fun _ => encT b []) h (by simp) fun k x hx => ?_
    · exact q
    · have : x = encT b [] := by
        match k, hx with
        | 0, hx => exact (Option.some.inj hx).symm
        | k + 1, hx => simp at hx
      subst this
      exact ⟨_, te_name List.mem_cons_self, te_test (ev_op (ev_var (gi _)) ev_non od_notN), fun z => ev_var (gi _)⟩
theorem better_none (m : Option Rat) : better none m = m := by cases m <;> rfl
theorem sc_least_moment : FnScope ["row", "walls", "things", "best", "left", "right", "moment", "wall"] ["row", "walls"] (defScope (top 39)) := ⟨rfl, rfl, rfl, by decide +kernel, rfl, by decide +kernel, by decide +kernel⟩
theorem ok_least_moment {f aN aO : Addr} {fd : FuncData} (T : Txt K mg aN aO)  (C_meeting_moment : Cal P w K mg base CX0 4 "meeting_moment" ["left", "right"] [] (spF K R_meeting_moment)) (C_less : Cal P w K mg base CX0 1 "less" ["one", "other"] [] (spF K R_less))  (F : FunD K "least_moment" "least_moment" (defArgs (top 39)) (defBody (top 39)) (defScope (top 39)) [] [] f fd) : FnOk P w K mg base CX0 5 f fd ["row", "walls"] (spF K R_least_moment) := by
  refine ok_def F sc_least_moment (fun ds o h => ?_) (fun cdv A outer s H W hr => ⟨_, (pss_cons (ps_set (i := 2) sc_least_moment.nd rfl (Or.inl rfl) (pe_op op_cat (pe_lc (own := [("wall", 7)]) rfl sc_least_moment.nd (pi_tup (pe_slice sl_tup (pv 1) po_none (po_some (pe_gint T.cHIGH)))) (blkOk_by (N := ["row", "walls", "things", "best", "left", "right", "moment", "wall"]) (sc := defScope (top 39)) (by decide +kernel)) (fun _ _ _ _ _ => (pg_name (i := 7) sc_least_moment.nd rfl (Or.inl rfl))) (fun _ _ _ _ _ => (pts_one (pt_cmpR op_notN (pv 7) pe_non (nomark _)))) (fun _ _ _ _ _ => (pv 7))) (pe_callTy call_list_of (by rfl) T.f_list (by decide +kernel) (pa_cons (pv 0) pa_nil))))
      (pss_cons (ps_expr (pe_bm PySem.F.plainAttrs_list PySem.F.slot_list_extend PySem.F.type_list_extend mt_extend (pv 2) (pa_cons (pe_lc (own := [("wall", 7)]) rfl sc_least_moment.nd (pi_tup (pe_slice sl_tup (pv 1) (po_some (pe_gint T.cHIGH)) po_none)) (blkOk_by (N := ["row", "walls", "things", "best", "left", "right", "moment", "wall"]) (sc := defScope (top 39)) (by decide +kernel)) (fun _ _ _ _ _ => (pg_name (i := 7) sc_least_moment.nd rfl (Or.inl rfl))) (fun _ _ _ _ _ => (pts_one (pt_cmpR op_notN (pv 7) pe_non (nomark _)))) (fun _ _ _ _ _ => (pv 7))) pa_nil)))
      (pss_cons (ps_set (i := 3) sc_least_moment.nd rfl (Or.inl rfl) pe_non)
      (pss_cons (ps_for (passes_of rfl) rfl (pi_zip (by rfl) T.f_zip (pa_cons (pv 2) (pa_cons (pe_slice sl_list (pv 2) (po_some pe_int) po_none) pa_nil))) (pg_tup rfl (pgs_cons (pg_name (i := 4) sc_least_moment.nd rfl (Or.inl rfl)) (pgs_cons (pg_name (i := 5) sc_least_moment.nd rfl (Or.inl rfl)) pgs_nil))) (pss_cons (ps_set (i := 6) sc_least_moment.nd rfl (Or.inl rfl) (pe_cal C_meeting_moment (hr.mono (by decide)) pass0 (pa_cons (pv 4) (pa_cons (pv 5) pa_nil))))
      (pss_one (ps_if (PW.pt (pw_and (pt_cmpR op_notN (pv 6) pe_non (nomark _)) (pw_and1 (PW.pt (pw_or (pt_cmpR op_isN (pv 3) pe_non (nomark _)) (pw_or1 (pt_val (pe_cal C_less (hr.mono (by decide)) pass0 (pa_cons (pv 6) (pa_cons (pv 3) pa_nil)))))))))) (pss_one (ps_set (i := 3) sc_least_moment.nd rfl (Or.inl rfl) (pv 6))) pss_nil))))
      (pss_one (ps_ret (pv 3))))))), fun ds o h => ?_⟩)
  · obtain ⟨row, ws, rfl, _, _, rfl⟩ := h
    exact ⟨rfl, .inl ⟨_, rfl⟩⟩
  · obtain ⟨row, ws, rfl, hl, hz, rfl⟩ := h
    have ol : ∀ a : Wl, a.toList.length ≤ 1 := fun a => by cases a <;> simp
    refine s_seq (s_setL (el_op (EL.ev (el_filt (ev_slT (xs := [encW ws.1, encW ws.2]) (lo := none) (hi := some 1) (ev_var rfl) pr_none (pr_some ev_int) (by show ¬ (HT.sIx 2 0 none = 0 ∧ HT.sIx 2 2 (some 1) = 2); decide)) (by show 7 < 8; decide))) (EL.ev (el_listT (ev_var rfl))) (ol_cat (by have := ol ws.1; simp only [List.length_map]; omega))) ?_)
    refine s_seq (s_extend rfl (EL.ev (el_filt (ev_slT (xs := [encW ws.1, encW ws.2]) (lo := some 1) (hi := none) (ev_var rfl) (pr_some ev_int) pr_none (by show ¬ (HT.sIx 2 0 (some 1) = 0 ∧ HT.sIx 2 2 none = 2); decide)) (by show 7 < 8; decide))) (by have := ol ws.1; have := ol ws.2; simp only [List.length_append, List.length_map]; omega) ?_)
    refine s_freeze (i := 2) (xs := encThings row ws) rfl ?_
    refine s_seq (s_set ev_non ?_)
    have hlen := encThings_len row ws
    have htl : (things row ws).length ≤ 12 := by
      have := ol ws.1
      have := ol ws.2
      unfold things
      simp only [List.length_append, List.length_map]
      omega
    have c1 : cutL (encThings row ws) (some 1) none = (encThings row ws).drop 1 := by
      by_cases hz : (encThings row ws).length ≥ 1
      · exact (cut_all _ hz).1
      · have : encThings row ws = [] := List.length_eq_zero_iff.mp (by omega)
        rw [this]
        rfl
    refine s_seq (s_forZ (xs := encThings row ws) (ys := (encThings row ws).drop 1) (fun k ρ => ∃ s4 s5 s6, ρ = [.d (.tuple (row.map encB)), .d (encWs ws), .d (.list (encThings row ws)), .d (encO (leastUp (things row ws) k)), s4, s5, s6, .u])
      (ag_cons (ev_var rfl) (ag_cons (Ev.eq (EL.ev (el_sl (ev_var rfl) (pr_some ev_int) pr_none)) (by rw [c1])) ag_nil)) ⟨_, _, _, rfl⟩ ?_ ?_)
    · rintro k x y ρ hx hy ⟨s4, s5, s6, rfl⟩
      rw [List.getElem?_drop, Nat.add_comm] at hy
      obtain ⟨a, r, ha, rfl⟩ := encThings_get hx
      obtain ⟨b, q, hb, rfl⟩ := encThings_get hy
      have ma := List.mem_of_getElem? ha
      have mb := List.mem_of_getElem? hb
      have st : leastUp (things row ws) (k + 1) = better (leastUp (things row ws) k) (meet a b) := by
        show (match (things row ws)[k]?, (things row ws)[k + 1]? with | some a, some b => better (leastUp (things row ws) k) (meet a b) | _, _ => leastUp (things row ws) k) = _
        rw [ha, hb]
      refine ⟨_, tg_tup rfl (tgA_cons tg_name (tgA_cons tg_name tgA_nil)), ?_⟩
      refine s_seq (s_set (ev_fn (ag_cons (ev_var rfl) (ag_cons (ev_var rfl) ag_nil)) ⟨a, b, r, q, rfl, hz.okm ma mb, rfl⟩) ?_)
      have okm : ∀ t, meet a b = some t → Ok t := fun t e => by
        unfold meet at e
        split at e
        · cases e
          exact (hz.m a ma b mb).mono (by decide)
        · cases e
      have oku : ∀ k t, leastUp (things row ws) k = some t → Ok t := by
        intro k
        induction k with
        | zero => intro t e; cases e
        | succ k ih =>
          intro t e
          unfold leastUp at e
          split at e
          · rename_i a' b' ha' hb'
            have ma' := List.mem_of_getElem? ha'
            have mb' := List.mem_of_getElem? hb'
            unfold better at e
            split at e
            · exact ih t e
            · rename_i t' em
              have ot : Ok t' := by
                unfold meet at em
                split at em
                · cases em
                  exact (hz.m a' ma' b' mb').mono (by decide)
                · cases em
              split at e
              · cases e
                exact ot
              · rename_i b0 eb
                split at e
                · cases e
                  exact ot
                · cases e
                  exact ih _ eb
          · exact ih t e
      cases em : meet a b with
      | none =>
        refine s_ifF (te_and (c := false) (e := false) (te_test (ev_op (ev_var rfl) ev_non od_notN)) fun z => nomatch z) (s_next ?_)
        refine ⟨.d (encT a r), .d (encT b q), .d (encO none), ?_⟩
        rw [st, em]
        rfl
      | some t =>
        cases eb : leastUp (things row ws) k with
        | none =>
          refine s_ifT (te_and (c := true) (e := true) (te_test (ev_op (ev_var (d := encR t) rfl) ev_non od_notN)) fun _ => te_or (c := true) (e := false) (te_test (ev_op (ev_var (d := .none) rfl) ev_non od_isN)) fun z => nomatch z) (s_set (ev_var rfl) ?_)
          refine ⟨.d (encT a r), .d (encT b q), .d (encO (some t)), ?_⟩
          rw [st, em, eb]
          rfl
        | some b0 =>
          refine s_if (te_and (c := true) (te_test (ev_op (ev_var (d := encR t) rfl) ev_non od_notN)) fun _ => te_or (c := false) (te_test (ev_op (ev_var (d := encR b0) rfl) ev_non od_isN)) fun _ => te_val (ev_less (x := t) (y := b0) (ev_var rfl) (ev_var rfl) (okm t em) (oku k b0 eb))) (fun c => s_set (ev_var rfl) ?_) fun c => s_next ?_
          · have c1 : t < b0 := by simpa using c
            refine ⟨.d (encT a r), .d (encT b q), .d (encO (some t)), ?_⟩
            rw [st, em, eb]
            show _ = [_, _, _, Sl.d (encO (if t < b0 then some t else some b0)), _, _, _, _]
            rw [if_pos c1]
            rfl
          · have c1 : ¬ t < b0 := by simpa using c
            refine ⟨.d (encT a r), .d (encT b q), .d (encO (some t)), ?_⟩
            rw [st, em, eb]
            show _ = [_, _, _, Sl.d (encO (if t < b0 then some t else some b0)), _, _, _, _]
            rw [if_neg c1]
            rfl
    · rintro ρ ⟨s4, s5, s6, rfl⟩
      refine s_ret (ev_var rfl) (.inl ?_)
      have : min (encThings row ws).length ((encThings row ws).drop 1).length = (things row ws).length - 1 := by
        rw [List.length_drop, hlen]
        omega
      rw [this]
      rfl
theorem sc_groups_at : FnScope ["row", "walls", "found", "first", "k", "ball", "where"] ["row", "walls"] (defScope (top 44)) := ⟨rfl, rfl, rfl, by decide +kernel, rfl, by decide +kernel, by decide +kernel⟩
theorem ok_groups_at {f aN aO : Addr} {fd : FuncData} (T : Txt K mg aN aO)  (C_wall_there : Cal P w K mg base CX0 1 "wall_there" ["walls", "place"] [] (spF K R_wall_there)) (C_comes_to : Cal P w K mg base CX0 2 "comes_to" ["ball", "walls", "where"] [] (spF K R_comes_to))  (F : FunD K "groups_at" "groups_at" (defArgs (top 44)) (defBody (top 44)) (defScope (top 44)) [] [] f fd) : FnOk P w K mg base CX0 3 f fd ["row", "walls"] (spF K R_groups_at) := by
  refine ok_def F sc_groups_at (fun ds o h => ?_) (fun cdv A outer s H W hr => ⟨_, (pss_cons (ps_set (i := 2) sc_groups_at.nd rfl (Or.inl rfl) (pe_lst pa_nil))
      (pss_cons (ps_set (i := 3) sc_groups_at.nd rfl (Or.inl rfl) pe_int)
      (pss_cons (ps_for (passes_of rfl) rfl (pi_enum (by rfl) T.f_enumerate (pa_cons (pv 0) pa_nil)) (pg_tup rfl (pgs_cons (pg_name (i := 4) sc_groups_at.nd rfl (Or.inl rfl)) (pgs_cons (pg_name (i := 5) sc_groups_at.nd rfl (Or.inl rfl)) pgs_nil))) (pss_one (ps_if (PW.pt (pw_or (pt_cmpR op_eq (pe_op op_add (pv 4) pe_int) (pe_callB call_len_seq (by rfl) T.f_len (by decide +kernel) (pa_cons (pv 0) pa_nil)) (nomark _)) (pw_or1 (pt_cmpR (op_neD hr.units) (pe_ix ix_tup (pe_ix ix_list (pv 0) (pe_op op_add (pv 4) pe_int) (fun _ _ => rfl)) (pe_gint T.cPLACE) (fun _ _ => rfl)) (pe_ix ix_tup (pv 5) (pe_gint T.cPLACE) (fun _ _ => rfl)) (nomark _))))) (pss_cons (ps_set (i := 6) sc_groups_at.nd rfl (Or.inl rfl) (pe_cal C_wall_there (hr.mono (by decide)) pass0 (pa_cons (pv 1) (pa_cons (pe_ix ix_tup (pv 5) (pe_gint T.cPLACE) (fun _ _ => rfl)) pa_nil))))
      (pss_cons (ps_if (PW.pt (pw_or (pt_cmpR op_gt (pv 4) (pv 3) (nomark _)) (pw_or1 (pt_val (pe_cal C_comes_to (hr.mono (by decide)) pass0 (pa_cons (pv 5) (pa_cons (pv 1) (pa_cons (pv 6) pa_nil)))))))) (pss_one (ps_expr (pe_bm PySem.F.plainAttrs_list PySem.F.slot_list_append PySem.F.type_list_append mt_append (pv 2) (pa_cons (pe_tup (pa_cons (pv 3) (pa_cons (pv 4) (pa_cons (pv 6) pa_nil)))) pa_nil)))) pss_nil)
      (pss_one (ps_set (i := 3) sc_groups_at.nd rfl (Or.inl rfl) (pe_op op_add (pv 4) pe_int))))) pss_nil)))
      (pss_one (ps_ret (pv 2)))))), fun ds o h => ?_⟩)
  · obtain ⟨row, ws, rfl, _, _, _, _, rfl⟩ := h
    exact ⟨rfl, .inl ⟨_, rfl⟩⟩
  · obtain ⟨row, ws, rfl, hl, hb, o1, o2, rfl⟩ := h
    refine s_seq (s_setL (el_lst ag_nil) ?_)
    refine s_seq (s_set ev_int ?_)
    have glen : ∀ k, (gUp row ws k).1.length ≤ k := by
      intro k
      induction k with
      | zero => exact Nat.le_refl _
      | succ k ih =>
        unfold gUp
        split
        · split
          · show (if _ then _ else _ : List Grp).length ≤ _
            split
            · rw [List.length_append, List.length_singleton]; omega
            · omega
          · omega
        · omega
    refine s_seq (s_forE (xs := row.map encB) (fun k ρ => ∃ s4 s5 s6, ρ = [.d (.list (row.map encB)), .d (encWs ws), .l ((gUp row ws k).1.map encG), .d (.int ((gUp row ws k).2 : Nat)), s4, s5, s6]) (ag_cons (ev_var rfl) ag_nil) ⟨_, _, _, rfl⟩ ?_ ?_)
    · rintro k x ρ hx ⟨s4, s5, s6, rfl⟩
      rw [List.getElem?_map] at hx
      cases eb : row[k]? with
      | none => rw [eb] at hx; cases hx
      | some b =>
        rw [eb] at hx
        cases hx
        have hk : k < row.length := (List.getElem?_eq_some_iff.mp eb).1
        have hlk := glen k
        have mb := List.mem_of_getElem? eb
        have st : gUp row ws (k + 1) = if endsAt row k then ((if decide ((gUp row ws k).2 < k) || comesTo b.s ws (wallThere ws b.p) then (gUp row ws k).1 ++ [⟨(gUp row ws k).2, k, wallThere ws b.p⟩] else (gUp row ws k).1), k + 1) else gUp row ws k := by
          show (match row[k]? with | some b => _ | none => _) = _
          rw [eb]
        refine ⟨_, tg_tup rfl (tgA_cons tg_name (tgA_cons tg_name tgA_nil)), ?_⟩
        have ends : Te K (fun _ => False) (tOr (tTest (tOp rEq (tOp (rI0 fun i j => .int (i + j)) (tVar 4) (tC (.int 1))) (tCB (fun xs H Q => ∃ p ys, xs = [.ref p] ∧ (SqL K H p ys ∨ SqT K H p ys) ∧ Q (.int ys.length) H) (tCons (tVar 0) tNil))))
            (tTest (tOp (rNeD K) (tOp (rIxT K) (tOp (rIxL K) (tVar 0) (tOp (rI0 fun i j => .int (i + j)) (tVar 4) (tC (.int 1)))) (tC (.int 0))) (tOp (rIxT K) (tVar 5) (tC (.int 0))))))
            [.d (.list (row.map encB)), .d (encWs ws), .l ((gUp row ws k).1.map encG), .d (.int ((gUp row ws k).2 : Nat)), .d (.int (k : Int)), .d (encB b), s6] (endsAt row k) := by
          cases ec : row[k + 1]? with
          | none =>
            have hk1 : k + 1 = row.length := by
              have := List.getElem?_eq_none_iff.mp ec
              omega
            have e1 : endsAt row k = true := by unfold endsAt; rw [eb, ec]
            rw [e1]
            refine te_or (c := true) (e := false) ((te_test (ev_op (ev_add (ev_var rfl) ev_int) (ev_cb (ag_cons (ev_var rfl) ag_nil) cb_lenL) od_eqI)).eq ?_) fun z => nomatch z
            rw [List.length_map]
            exact decide_eq_true (by omega)
          | some c =>
            have hk1 : k + 1 < row.length := (List.getElem?_eq_some_iff.mp ec).1
            have e1 : endsAt row k = !decide (b.p = c.p) := by
              unfold endsAt
              rw [eb, ec]
              show (!decide (c.p = b.p)) = _
              rw [show decide (c.p = b.p) = decide (b.p = c.p) from by rw [decide_eq_decide]; exact eq_comm]
            have e2 : (!decide (c.p = b.p)) = !decide (b.p = c.p) := by
              rw [show decide (c.p = b.p) = decide (b.p = c.p) from by rw [decide_eq_decide]; exact eq_comm]
            rw [e1]
            have := te_or (c := false) ((te_test (ev_op (ev_add (ev_var (K := K) (M := fun _ => False) (ρ := [.d (.list (row.map encB)), .d (encWs ws), .l ((gUp row ws k).1.map encG), .d (.int ((gUp row ws k).2 : Nat)), .d (.int (k : Int)), .d (encB b), s6]) (i := 4) rfl) (ev_int (i := 1))) (ev_cb (ag_cons (ev_var (i := 0) rfl) ag_nil) cb_lenL) od_eqI)).eq (by rw [List.length_map]; exact decide_eq_false (by omega)))
              fun _ => te_test (ev_op (ev_pl (a := c.th) (r := [.int (c.w : Int)]) (ev_ixLn (j := k + 1) (xs := row.map encB) (ev_var (i := 0) rfl) (Ev.eq (d' := .int ((k + 1 : Nat) : Int)) (ev_add (ev_var (i := 4) rfl) (ev_int (i := 1))) (by rw [Int.natCast_add]; rfl)) (by rw [List.getElem?_map, ec]; rfl)) (ev_int (i := 0))) (ev_pl (a := b.th) (r := [.int (b.w : Int)]) (ev_var (i := 5) rfl) (ev_int (i := 0))) (od_neD (encR_shaped _) (encR_shaped _)))
            rw [encR_eqv, Bool.false_or] at this
            show Te K _ _ _ (!decide (b.p = c.p))
            rw [← e2]
            exact this
        refine s_if ends (fun c => ?_) fun c => s_next ?_
        · rw [if_pos c] at st
          refine s_seq (s_set (ev_fn (ag_cons (ev_var rfl) (ag_cons (ev_pl (a := b.th) (r := [.int (b.w : Int)]) (ev_var rfl) ev_int) ag_nil)) ⟨ws, b.p, rfl, rfl⟩) ?_)
          have hw1 : wallThere ws b.p = "low" → ws.1 ≠ none := fun e z => by
            unfold wallThere at e
            rw [z] at e
            have h0 : atW none b.p = false := rfl
            rw [h0, if_neg (by decide)] at e
            split at e
            · exact absurd e (by decide +kernel)
            · exact absurd e (by decide +kernel)
          have hw2 : wallThere ws b.p = "high" → ws.2 ≠ none := fun e z => by
            unfold wallThere at e
            rw [z] at e
            have h0 : atW none b.p = false := rfl
            rw [h0] at e
            split at e
            · exact absurd e (by decide +kernel)
            · rw [if_neg (by decide)] at e
              exact absurd e (by decide +kernel)
          refine s_seq (s_if (te_or (te_test (ev_op (ev_var rfl) (ev_var rfl) od_gt)) fun _ => te_val (ev_fn (ag_cons (ev_var rfl) (ag_cons (ev_var rfl) (ag_cons (ev_var rfl) ag_nil))) ⟨b, ws, wallThere ws b.p, rfl, hw1, hw2, hb b mb, o1, o2, rfl⟩)) (fun c2 => ?_) fun c2 => s_next ?_)
          · refine s_append rfl (ev_tup (ag_cons (ev_var rfl) (ag_cons (ev_var rfl) (ag_cons (ev_var rfl) ag_nil)))) (by rw [List.length_map]; omega) ?_
            refine s_set (ev_add (ev_var rfl) ev_int) ?_
            refine ⟨.d (.int (k : Int)), .d (encB b), .d (.str (wallThere ws b.p)), ?_⟩
            have c3 : (decide ((gUp row ws k).2 < k) || comesTo b.s ws (wallThere ws b.p)) = true := by
              rw [← c2]
              congr 1
              rw [decide_eq_decide]
              omega
            rw [st, if_pos c3, List.map_append]
            rfl
          · refine s_set (ev_add (ev_var rfl) ev_int) ?_
            refine ⟨.d (.int (k : Int)), .d (encB b), .d (.str (wallThere ws b.p)), ?_⟩
            have c3 : (decide ((gUp row ws k).2 < k) || comesTo b.s ws (wallThere ws b.p)) = false := by
              rw [← c2]
              congr 1
              rw [decide_eq_decide]
              omega
            rw [st, if_neg (by rw [c3]; decide)]
            rfl
        · rw [if_neg (by rw [c]; decide)] at st
          refine ⟨.d (.int (k : Int)), .d (encB b), s6, ?_⟩
          rw [st]
          rfl
    · rintro ρ ⟨s4, s5, s6, rfl⟩
      rw [List.length_map]
      exact s_freeze (i := 2) rfl (s_ret (ev_var rfl) (.inl rfl))
/-- the first item that is not below x -/
def firstAt (x : Rat) : List Rat → Nat
  | [] => 0
  | y :: r => if y < x then firstAt x r + 1 else 0
theorem insR_eq (x : Rat) : ∀ l : List Rat, insR x l = l.take (firstAt x l) ++ [x] ++ l.drop (firstAt x l)
  | [] => rfl
  | y :: r => by
    unfold insR firstAt
    split
    · rw [insR_eq x r]
      rfl
    · rfl
theorem firstAt_le (x : Rat) : ∀ l : List Rat, firstAt x l ≤ l.length
  | [] => Nat.le_refl _
  | y :: r => by
    unfold firstAt
    split
    · have := firstAt_le x r
      rw [List.length_cons]
      omega
    · exact Nat.zero_le _
theorem firstAt_lt (x : Rat) : ∀ {l : List Rat} {k : Nat} {y : Rat}, l[k]? = some y → k < firstAt x l → y < x
  | [], _, _, e, _ => by simp at e
  | z :: r, 0, y, e, h => by
    unfold firstAt at h
    split at h
    · rename_i c
      simp at e
      rw [← e]
      exact c
    · omega
  | z :: r, k + 1, y, e, h => by
    unfold firstAt at h
    split at h
    · exact firstAt_lt x (l := r) (k := k) (by simpa using e) (by omega)
    · omega
theorem firstAt_at (x : Rat) : ∀ {l : List Rat} {y : Rat}, l[firstAt x l]? = some y → ¬ y < x
  | [], _, e => by simp at e
  | z :: r, y, e => by
    unfold firstAt at e
    split at e
    · exact firstAt_at x (l := r) (by simpa using e)
    · rename_i c
      simp at e
      rw [← e]
      exact c
theorem riseUp_mem {l : List Rat} {P : Rat → Prop} (h : ∀ x ∈ l, P x) : ∀ k, (∀ x ∈ riseUp l k, P x) ∧ (riseUp l k).length ≤ k
  | 0 => ⟨fun x hx => (nomatch hx), Nat.le_refl _⟩
  | k + 1 => by
    obtain ⟨h1, h2⟩ := riseUp_mem h k
    unfold riseUp
    cases e : l[k]? with
    | none => exact ⟨h1, Nat.le_succ_of_le h2⟩
    | some x =>
      show (∀ y ∈ insR x (riseUp l k), P y) ∧ (insR x (riseUp l k)).length ≤ k + 1
      rw [insR_eq]
      refine ⟨fun y hy => ?_, ?_⟩
      · rcases List.mem_append.mp hy with hy | hy
        · rcases List.mem_append.mp hy with hy | hy
          · exact h1 y (List.mem_of_mem_take hy)
          · rw [List.mem_singleton.mp hy]
            exact h x (List.mem_of_getElem? e)
        · exact h1 y (List.mem_of_mem_drop hy)
      · simp only [List.length_append, List.length_take, List.length_drop, List.length_singleton]
        omega
theorem sc_rising : FnScope ["ratios", "found", "one", "at"] ["ratios"] (defScope (top 45)) := ⟨rfl, rfl, rfl, by decide +kernel, rfl, by decide +kernel, by decide +kernel⟩
theorem ok_rising {f aN aO : Addr} {fd : FuncData} (T : Txt K mg aN aO)  (C_less : Cal P w K mg base CX0 1 "less" ["one", "other"] [] (spF K R_less))  (F : FunD K "rising" "rising" (defArgs (top 45)) (defBody (top 45)) (defScope (top 45)) [] [] f fd) : FnOk P w K mg base CX0 2 f fd ["ratios"] (spF K R_rising) := by
  refine ok_def F sc_rising (fun ds o h => ?_) (fun cdv A outer s H W hr => ⟨_, (pss_cons (ps_set (i := 1) sc_rising.nd rfl (Or.inl rfl) (pe_lst pa_nil))
      (pss_cons (ps_for (passes_of rfl) rfl (pi_list (pv 0)) (pg_name (i := 2) sc_rising.nd rfl (Or.inl rfl)) (pss_cons (ps_set (i := 3) sc_rising.nd rfl (Or.inl rfl) pe_int)
      (pss_cons (ps_while (passes_of rfl) (PW.pt (pw_and (pt_cmpR op_lt (pv 3) (pe_callB call_len_seq (by rfl) T.f_len (by decide +kernel) (pa_cons (pv 1) pa_nil)) (nomark _)) (pw_and1 (pt_val (pe_cal C_less (hr.mono (by decide)) pass0 (pa_cons (pe_ix ix_list (pv 1) (pv 3) (fun _ _ => rfl)) (pa_cons (pv 2) pa_nil))))))) (pss_one (ps_set (i := 3) sc_rising.nd rfl (Or.inl rfl) (pe_op op_add (pv 3) pe_int))))
      (pss_one (ps_expr (pe_bm PySem.F.plainAttrs_list PySem.F.slot_list_insert PySem.F.type_list_insert mt_insert (pv 1) (pa_cons (pv 3) (pa_cons (pv 2) pa_nil))))))))
      (pss_one (ps_ret (pv 1))))), fun ds o h => ?_⟩)
  · obtain ⟨l, rfl, _, _, rfl⟩ := h
    exact ⟨rfl, .inl ⟨_, rfl⟩⟩
  · obtain ⟨l, rfl, hl, ho, rfl⟩ := h
    refine s_seq (s_setL (el_lst ag_nil) ?_)
    refine s_seq (s_forL (xs := l.map encR) (fun k ρ => ∃ s2 s3, ρ = [.d (.list (l.map encR)), .l ((riseUp l k).map encR), s2, s3]) (ev_var rfl) ⟨_, _, rfl⟩ ?_ ?_)
    · rintro k x ρ hx ⟨s2, s3, rfl⟩
      rw [List.getElem?_map] at hx
      cases eb : l[k]? with
      | none => rw [eb] at hx; cases hx
      | some x =>
        rw [eb] at hx
        cases hx
        have hk : k < l.length := (List.getElem?_eq_some_iff.mp eb).1
        obtain ⟨hm, hlen⟩ := riseUp_mem ho k
        have hox : Ok x := ho x (List.mem_of_getElem? eb)
        have hf := firstAt_le x (riseUp l k)
        refine ⟨_, tg_name, ?_⟩
        refine s_seq (s_set ev_int ?_)
        refine s_seq (s_while (fun m ρ => ∃ j : Nat, ρ = [.d (.list (l.map encR)), .l ((riseUp l k).map encR), .d (encR x), .d (.int (j : Int))] ∧ j ≤ firstAt x (riseUp l k) ∧ m = firstAt x (riseUp l k) - j) (m0 := firstAt x (riseUp l k)) ⟨0, rfl, Nat.zero_le _, rfl⟩ ?_)
        rintro m ρ ⟨j, rfl, hj, rfl⟩
        have elen : Ev K (fun _ => False) (tCB (fun xs H Q => ∃ p ys, xs = [.ref p] ∧ (SqL K H p ys ∨ SqT K H p ys) ∧ Q (.int ys.length) H) (tCons (tVar 1) tNil)) [.d (.list (l.map encR)), .l ((riseUp l k).map encR), .d (encR x), .d (.int (j : Int))] (.int ((riseUp l k).length : Nat)) := by
          have := ev_lenO (K := K) (M := fun _ => False) (ρ := [.d (.list (l.map encR)), .l ((riseUp l k).map encR), .d (encR x), .d (.int (j : Int))]) (i := 1) (xs := (riseUp l k).map encR) rfl
          rw [List.length_map] at this
          exact this
        by_cases hlt : j < (riseUp l k).length
        · have ey : (riseUp l k)[j]? = some (riseUp l k)[j] := List.getElem?_eq_getElem hlt
          have hoy : Ok (riseUp l k)[j] := hm _ (List.getElem_mem hlt)
          refine ⟨_, te_and (c := true) ((te_test (ev_op (ev_var rfl) elen od_lt)).eq (decide_eq_true (by omega))) fun _ => te_val (ev_less (ev_ixO (i := 1) (xs := (riseUp l k).map encR) rfl (ev_var rfl) (atI_nat (by rw [List.getElem?_map, ey]; rfl))) (ev_var rfl) hoy hox), fun c => ?_, fun c => ?_⟩
          · have c1 : (riseUp l k)[j] < x := by simpa using c
            have hjl : j < firstAt x (riseUp l k) := by
              rcases Nat.lt_or_ge j (firstAt x (riseUp l k)) with h | h
              · exact h
              · have : j = firstAt x (riseUp l k) := by omega
                exact absurd c1 (firstAt_at x (by rw [← this]; exact ey))
            exact s_set (ev_add (ev_var rfl) ev_int) ⟨_, by omega, j + 1, rfl, by omega, rfl⟩
          · have c1 : ¬ (riseUp l k)[j] < x := by simpa using c
            have hj2 : j = firstAt x (riseUp l k) := by
              rcases Nat.lt_or_ge j (firstAt x (riseUp l k)) with h | h
              · exact absurd (firstAt_lt x ey h) c1
              · omega
            refine s_insert rfl (ev_var rfl) (ev_var rfl) (by rw [List.length_map]; omega) (by omega) ?_
            refine ⟨.d (encR x), .d (.int (j : Int)), ?_⟩
            have st : riseUp l (k + 1) = insR x (riseUp l k) := by
              show (match l[k]? with | some x => insR x (riseUp l k) | none => riseUp l k) = _
              rw [eb]
            rw [st, insR_eq, ← hj2, List.map_append, List.map_append, List.map_take, List.map_drop]
            rfl
        · refine ⟨_, te_and (c := false) (e := false) ((te_test (ev_op (ev_var rfl) elen od_lt)).eq (decide_eq_false (by omega))) fun z => (nomatch z), fun c => (nomatch c), fun c => ?_⟩
          have hj2 : j = firstAt x (riseUp l k) := by omega
          refine s_insert rfl (ev_var rfl) (ev_var rfl) (by rw [List.length_map]; omega) (by omega) ?_
          refine ⟨.d (encR x), .d (.int (j : Int)), ?_⟩
          have st : riseUp l (k + 1) = insR x (riseUp l k) := by
            show (match l[k]? with | some x => insR x (riseUp l k) | none => riseUp l k) = _
            rw [eb]
          rw [st, insR_eq, ← hj2, List.map_append, List.map_append, List.map_take, List.map_drop]
          rfl
    · rintro ρ ⟨s2, s3, rfl⟩
      rw [List.length_map]
      exact s_freeze (i := 1) rfl (s_ret (ev_var rfl) (.inl rfl))
theorem ev_i {M : Addr → Prop} {ρ : List Sl} {i j : Int} (e : i = j) : Ev K M (tC (.int i)) ρ (.int j) := e ▸ ev_int
theorem sc_two_speeds : FnScope ["left", "right", "whole", "closing", "back", "on"] ["left", "right"] (defScope (top 46)) := ⟨rfl, rfl, rfl, by decide +kernel, rfl, by decide +kernel, by decide +kernel⟩
theorem ok_two_speeds {f aN aO : Addr} {fd : FuncData} (T : Txt K mg aN aO)  (C_ratio1 : Cal P w K mg base CX0 2 "ratio" ["top", "bottom"] [.int 1] (spF K R_ratio)) (C_minus : Cal P w K mg base CX0 3 "minus" ["one", "other"] [] (spF K R_minus)) (C_over : Cal P w K mg base CX0 3 "over" ["one", "other"] [] (spF K R_over)) (C_times : Cal P w K mg base CX0 3 "times" ["one", "other"] [] (spF K R_times)) (C_plus : Cal P w K mg base CX0 3 "plus" ["one", "other"] [] (spF K R_plus))  (F : FunD K "two_speeds" "two_speeds" (defArgs (top 46)) (defBody (top 46)) (defScope (top 46)) [] [] f fd) : FnOk P w K mg base CX0 4 f fd ["left", "right"] (spF K R_two_speeds) := by
  refine ok_def F sc_two_speeds (fun ds o h => ?_) (fun cdv A outer s H W hr => ⟨_, (pss_cons (ps_set (i := 2) sc_two_speeds.nd rfl (Or.inl rfl) (pe_cal C_ratio1 (hr.mono (by decide)) pass0 (pa_cons (pe_op op_add (pe_ix ix_tup (pv 0) (pe_gint T.cWEIGHT) (fun _ _ => rfl)) (pe_ix ix_tup (pv 1) (pe_gint T.cWEIGHT) (fun _ _ => rfl))) pa_nil)))
      (pss_cons (ps_set (i := 3) sc_two_speeds.nd rfl (Or.inl rfl) (pe_cal C_minus (hr.mono (by decide)) pass0 (pa_cons (pe_ix ix_tup (pv 0) (pe_gint T.cSPEED) (fun _ _ => rfl)) (pa_cons (pe_ix ix_tup (pv 1) (pe_gint T.cSPEED) (fun _ _ => rfl)) pa_nil))))
      (pss_cons (ps_set (i := 4) sc_two_speeds.nd rfl (Or.inl rfl) (pe_cal C_over (hr.mono (by decide)) pass0 (pa_cons (pe_cal C_times (hr.mono (by decide)) pass0 (pa_cons (pe_cal C_ratio1 (hr.mono (by decide)) pass0 (pa_cons (pe_op op_mulW pe_int (pe_ix ix_tup (pv 1) (pe_gint T.cWEIGHT) (fun _ _ => rfl))) pa_nil)) (pa_cons (pv 3) pa_nil))) (pa_cons (pv 2) pa_nil))))
      (pss_cons (ps_set (i := 5) sc_two_speeds.nd rfl (Or.inl rfl) (pe_cal C_over (hr.mono (by decide)) pass0 (pa_cons (pe_cal C_times (hr.mono (by decide)) pass0 (pa_cons (pe_cal C_ratio1 (hr.mono (by decide)) pass0 (pa_cons (pe_op op_mulW pe_int (pe_ix ix_tup (pv 0) (pe_gint T.cWEIGHT) (fun _ _ => rfl))) pa_nil)) (pa_cons (pv 3) pa_nil))) (pa_cons (pv 2) pa_nil))))
      (pss_one (ps_ret (pe_lst (pa_cons (pe_cal C_minus (hr.mono (by decide)) pass0 (pa_cons (pe_ix ix_tup (pv 0) (pe_gint T.cSPEED) (fun _ _ => rfl)) (pa_cons (pv 4) pa_nil))) (pa_cons (pe_cal C_plus (hr.mono (by decide)) pass0 (pa_cons (pe_ix ix_tup (pv 1) (pe_gint T.cSPEED) (fun _ _ => rfl)) (pa_cons (pv 5) pa_nil))) pa_nil))))))))), fun ds o h => ?_⟩)
  · obtain ⟨a, b, rfl, _, _, _, _, _, _, rfl⟩ := h
    exact ⟨rfl, .inl ⟨_, rfl⟩⟩
  · obtain ⟨a, b, rfl, sa, sb, a0, a1, b0, b1, rfl⟩ := h
    have oa : Ok a.s := sa.mono (by decide)
    have ob : Ok b.s := sb.mono (by decide)
    have cl : Sm 4001 (a.s - b.s) := sa.sub sb
    have wi : ∀ {n : Nat}, n < 2 ^ 11 → Sm 12 (((2 * (n : Int)) : Int) : Rat) := fun {n} h => Sm.int (by omega) (by decide)
    have hw : Sm 12 (((a.w : Int) + (b.w : Int) : Int) : Rat) := Sm.int (by omega) (by decide)
    have hw0 : (((a.w : Int) + (b.w : Int) : Int) : Rat) ≠ 0 := fun e => by
      have : ((a.w : Int) + (b.w : Int)) = 0 := Rat.intCast_inj.mp e
      omega
    have t1 : Sm 4013 ((((2 * (b.w : Int)) : Int) : Rat) * (a.s - b.s)) := ((wi b1).mul cl).mono (by decide)
    have t2 : Sm 4013 ((((2 * (a.w : Int)) : Int) : Rat) * (a.s - b.s)) := ((wi a1).mul cl).mono (by decide)
    have two : CMulW 2 (b.w : Int) := cmul (m := 2) (n := 11) (by decide) (by omega)
    have two' : CMulW 2 (a.w : Int) := cmul (m := 2) (n := 11) (by decide) (by omega)
    refine s_seq (s_set (ev_ratio1 (ev_add (ev_we (b := a) (ev_var rfl) ev_int) (ev_we (b := b) (ev_var rfl) ev_int))) ?_)
    refine s_seq (s_set (ev_minus (ev_sp (a := a.th) (r := [.int (a.w : Int)]) (ev_var rfl) ev_int) (ev_sp (a := b.th) (r := [.int (b.w : Int)]) (ev_var rfl) ev_int) oa ob) ?_)
    refine s_seq (s_set (ev_over (ev_times (ev_ratio1 (ev_mul ev_int (ev_we (b := b) (ev_var rfl) ev_int) two)) (ev_var rfl) ((wi b1).mono (by decide)) (cl.mono (by decide))) (ev_var rfl) (t1.mono (by decide)) (hw.mono (by decide)) hw0) ?_)
    refine s_seq (s_set (ev_over (ev_times (ev_ratio1 (ev_mul ev_int (ev_we (b := a) (ev_var rfl) ev_int) two')) (ev_var rfl) ((wi a1).mono (by decide)) (cl.mono (by decide))) (ev_var rfl) (t2.mono (by decide)) (hw.mono (by decide)) hw0) ?_)
    exact s_ret (EL.ev (el_lst (ag_cons (ev_minus (ev_sp (a := a.th) (r := [.int (a.w : Int)]) (ev_var rfl) ev_int) (ev_var rfl) oa ((t1.div hw hw0).mono (by decide))) (ag_cons (ev_plus (ev_sp (a := b.th) (r := [.int (b.w : Int)]) (ev_var rfl) ev_int) (ev_var rfl) ob ((t2.div hw hw0).mono (by decide))) ag_nil)))) (.inl rfl)
end
end K57
/-! X1: the text's own errors, made with a moment -/
namespace K57
open PySem PySem.Spec PyProof.Rows L2 PD M
/-- an error's __init__: self.moment = moment -/
def spIni (C : Addr) : Sp := fun vs H Q _ => ∃ (a : Addr) (v : V), vs = [.ref a, v] ∧ H a = some (exo a C none) ∧ ∀ dx, H dx = none → dx ≠ a → Q .non (upd (upd H dx (exd dx [("moment", v)])) a (exo a C (some dx)))
/-- what is known of such a class -/
structure ExC (P : Program) (w : World) (K : PySem.W.Frag) (mg : Str → Option Value) (base : Heap) (x : Str) (C : Addr) : Prop where
  oex : OexC K C
  gC : mg x = some (.ref C)
  ini : ∃ (fI : Addr) (fd : FuncData), PySem.W.findIn K (.ref C) "__init__" = some (some (.ref fI)) ∧ PySem.W.typeIn K (.ref fI) = some (.type "function") ∧ Binds K fd ["self", "moment"] [] ∧ FnOk P w K mg base CX0 1 fI fd ["self", "moment"] (spIni C)
theorem pmk_ex {X : Cx} {x : Str} {C : Addr} {e : Expr} {es : List Expr} {ta : TA} {p pos : Pos} (E : ExC X.prog X.w X.K X.mg X.base x C) (hr : Room 2 X.A) (ha : PA X (e :: es) ta) (hg : Gl X x := by rfl) (hd : (x == ("__debug__" : Str)) = false := by decide)
    (he : starEach (e :: es) X.env = (false, eval e X.env) :: starEach es X.env := by rfl) (hpl : (backTo pos (starEach es X.env)).any (·.1) = false := by rfl) : PMk X (.Call (.Name x p) (e :: es) [] pos) (tMkO C (spIni C) [] ta) := by
  obtain ⟨fI, fd, h1, h2, h3, h4⟩ := E.ini
  exact pmk_oex E.oex h1 h2 h4 hr h3 .nil pass0 hg E.gC ha (hdb := hd) (he := he) (hpl := hpl)
section
variable {P : Program} {w : World} {K : PySem.W.Frag} {mg : Str → Option Value} {base : Heap}
theorem ok_ini {f C : Addr} {fd : FuncData} {qual : Str} {params : Arguments} {scope : Scope} {p1 p2 p3 p4 : Pos} (T : OexC K C) (hn : PySem.W.findIn K (.ref C) "moment" = some none) (Sc : FnScope ["self", "moment"] ["self", "moment"] scope)
    (h1 : scope.names.lookup ("self" : Str) = some .local) (h2 : scope.names.lookup ("moment" : Str) = some .local)
    (F : FunD K "__init__" qual params [.Assign [.Attribute (.Name "self" p1) "moment" p2] (.Name "moment" p3) p4] scope [] [] f fd) : FnOk P w K mg base CX0 1 f fd ["self", "moment"] (spIni C) := by
  refine F.ok Sc (fun vs H Q W h => ?_) (fun cdv A outer s H vs Q W hr h => ⟨_, pss_one (ps_ost (pv 0 rfl (.inl h1)) (pv 1 rfl (.inl h2))), ?_⟩)
  · obtain ⟨a, v, rfl, _⟩ := h
    rfl
  · obtain ⟨a, v, rfl, ha, q⟩ := h
    exact ⟨v, rfl, .ref a, rfl, a, C, rfl, T, hn, .inl ⟨ha, fun dx nd ne => q dx nd ne⟩⟩
end
/-- raise C(e) -/
theorem s_raise {K : PySem.W.Frag} {M : Addr → Prop} {W : XK} {ρ : List Sl} {ta : TA} {C : Addr} {d : PyData} {Φ : Out → Prop} (ha : Ag K M ta ρ [d]) (q : Φ (.ex C)) : S K M W (fun _ σ H => tMkO C (spIni C) [] ta σ H fun cls dd H' => (fun (cls : Value) (dd : Option Addr) (_ : L2.St) (H : Hp) => W cls dd H) cls dd σ H') ρ Φ := fun H0 F0 F H σ D s _ _ _ _ k5 =>
  ha F H σ s.st.fh s.sl _ fun ds vs F1 H1 e st r => by
    subst e
    obtain ⟨v, rfl, rv⟩ := r.one
    refine ⟨show 1 ≤ 1000 by decide, fun a na => ⟨a, v, rfl, upd_same, fun dx nd ne => ⟨rfl, dx, [("moment", v)], upd_same, by rw [upd_ne ne, upd_same], ?_, ?_⟩⟩⟩
    · rw [upd_ne ne] at nd
      exact nd
    · rw [upd_ne ne] at nd
      have e : upd (del (upd (upd (upd H1 a (exo a C none)) dx (exd dx [("moment", v)])) a (exo a C (some dx))) a) dx (.xd [("moment", v)]) = upd H1 dx (.xd [("moment", v)]) := by
        funext b
        by_cases hb : b = dx
        · rw [hb, upd_same, upd_same]
        · rw [upd_ne hb, upd_ne hb]
          by_cases ha' : b = a
          · rw [ha', del_same, na]
          · rw [del_ne ha', upd_ne ha', upd_ne hb, upd_ne ha']
      rw [e]
      exact k5 C _ F1 _ q ((s.st.trans s.m0 st).trans s.m0 (.newU st.fh nd))
end K57
/-! F6: comings -/
namespace K57
open PySem PySem.Spec PyProof.Rows L2 PD M
section
variable {P : Program} {w : World} {K : PySem.W.Frag} {mg : Str → Option Value} {base : Heap}
theorem rise_ok {l : List Rat} {P : Rat → Prop} (h : ∀ x ∈ l, P x) : ∀ x ∈ rise l, P x := (riseUp_mem h _).1
theorem mem_back {wl : Wl} {l : List Rat} (h1 : ∀ x ∈ l, Sm 2000 x) (h2 : ∀ a, wl = some a → Sm 2000 a.2) : ∀ x ∈ backBy wl l, Ok x := fun x hx => by
  cases wl with
  | none => exact (h1 x hx).mono (by decide)
  | some a =>
    obtain ⟨v, hv, rfl⟩ := List.mem_map.mp hx
    have s2 : Sm 2 (2 : Rat) := ⟨by decide, by decide⟩
    exact ((s2.mul (h2 a rfl)).sub (h1 v hv)).mono (by decide)
theorem Sz2.mul {a : Th} (h : Sm 2000 a.2) : Ok (2 * a.2) := by
  have s2 : Sm 2 (2 : Rat) := ⟨by decide, by decide⟩
  exact (s2.mul h).mono (by decide)
theorem sc_together_speeds : FnScope ["balls", "wall", "moment", "speeds", "ball", "speed"] ["balls", "wall", "moment"] (defScope (top 47)) := ⟨rfl, rfl, rfl, by decide +kernel, rfl, by decide +kernel, by decide +kernel⟩
theorem ok_together_speeds {f aN aO : Addr} {fd : FuncData} (T : Txt K mg aN aO) {cT cS : Addr} (X_Together : ExC P w K mg base "Together" cT)  (C_rising : Cal P w K mg base CX0 2 "rising" ["ratios"] [] (spF K R_rising)) (C_two_speeds : Cal P w K mg base CX0 4 "two_speeds" ["left", "right"] [] (spF K R_two_speeds)) (C_minus : Cal P w K mg base CX0 3 "minus" ["one", "other"] [] (spF K R_minus)) (C_times : Cal P w K mg base CX0 3 "times" ["one", "other"] [] (spF K R_times))  (F : FunD K "together_speeds" "together_speeds" (defArgs (top 47)) (defBody (top 47)) (defScope (top 47)) [] [] f fd) : FnOk P w K mg base (L2.CX P w) 5 f fd ["balls", "wall", "moment"] (spF K (R_together_speeds cT)) := by
  refine ok_def F sc_together_speeds (fun ds o h => ?_) (fun cdv A outer s H W hr => ⟨_, (pss_cons (ps_if (PW.pt (pw_and (pt_cmpR op_eq (pe_callB call_len_seq (by rfl) T.f_len (by decide +kernel) (pa_cons (pv 0) pa_nil)) pe_int (nomark _)) (pw_and1 (pt_cmpR op_isN (pv 1) pe_non (nomark _))))) (pss_one (ps_ret (pe_cal C_two_speeds (hr.mono (by decide)) pass0 (pa_cons (pe_ix ix_list (pv 0) pe_int (fun _ _ => rfl)) (pa_cons (pe_ix ix_list (pv 0) pe_int (fun _ _ => rfl)) pa_nil))))) pss_nil)
      (pss_cons (ps_if (PW.pt (pw_and (pt_cmpR op_gt (pe_callB call_len_seq (by rfl) T.f_len (by decide +kernel) (pa_cons (pv 0) pa_nil)) pe_int (nomark _)) (pw_and1 (pt_val (pe_callB (cr_any rfl) (by rfl) T.f_any (by decide +kernel) (pa_cons (pe_lc (own := [("ball", 4)]) rfl sc_together_speeds.nd (pi_list (pv 0)) (blkOk_by (N := ["balls", "wall", "moment", "speeds", "ball", "speed"]) (sc := defScope (top 47)) (by decide +kernel)) (fun _ _ _ _ _ => (pg_name (i := 4) sc_together_speeds.nd rfl (Or.inl rfl))) (fun _ _ _ _ _ => pts_nil) (fun _ _ _ _ _ => (pe_cmpR op_ne (pe_ix (ix_tupK (K := K) rfl) (pv 4) (pe_gint T.cWEIGHT) (fun _ _ => rfl)) (pe_ix (ix_tupK (K := K) rfl) (pe_ix (ix_listK (K := K) rfl) (pv 0) pe_int (fun _ _ => rfl)) (pe_gint T.cWEIGHT) (fun _ _ => rfl)) (nomark _)))) pa_nil)))))) (pss_one (ps_raise rfl (takes_of rfl rfl rfl rfl) (pmk_ex X_Together (hr.mono (by decide)) (pa_cons (pv 2) pa_nil)))) pss_nil)
      (pss_cons (ps_setLc (i := 3) (own := [("ball", 4)]) rfl sc_together_speeds.nd rfl rfl (sw_true rfl rfl rfl (by decide +kernel)) (pi_list (pv 0)) (blkOk_by (N := ["balls", "wall", "moment", "speeds", "ball", "speed"]) (sc := defScope (top 47)) (by decide +kernel)) (fun _ _ _ _ _ => (pg_name (i := 4) sc_together_speeds.nd rfl (Or.inl rfl))) (fun _ _ _ _ _ => pts_nil) (fun _ _ _ _ _ => (pe_ix (ix_tupK (K := K) rfl) (pv 4) (pe_gint T.cSPEED) (fun _ _ => rfl))))
      (pss_cons (ps_if (pt_cmpR op_notN (pv 1) pe_non (nomark _)) (pss_one (ps_setLc (i := 3) (own := [("speed", 5)]) rfl sc_together_speeds.nd rfl rfl (sw_true rfl rfl rfl (by decide +kernel)) (pi_list (pv 3)) (blkOk_by (N := ["balls", "wall", "moment", "speeds", "ball", "speed"]) (sc := defScope (top 47)) (by decide +kernel)) (fun _ _ _ _ _ => (pg_name (i := 5) sc_together_speeds.nd rfl (Or.inl rfl))) (fun _ _ _ _ _ => pts_nil) (fun _ _ _ _ _ => (pe_cal C_minus (hr.mono (by decide)) pass0 (pa_cons (pe_cal C_times (hr.mono (by decide)) pass0 (pa_cons (pe_tup (pa_cons pe_int (pa_cons pe_int pa_nil))) (pa_cons (pe_ix (ix_tupK (K := K) rfl) (pv 1) (pe_gint T.cSPEED) (fun _ _ => rfl)) pa_nil))) (pa_cons (pv 5) pa_nil)))))) pss_nil)
      (pss_one (ps_ret (pe_cal C_rising (hr.mono (by decide)) pass0 (pa_cons (pv 3) pa_nil)))))))), fun ds o h => ?_⟩)
  · obtain ⟨balls, wl, t, rfl, _, _, _, _, _, rfl⟩ := h
    refine ⟨rfl, ?_⟩
    cases together balls wl with
    | none => exact .inr ⟨_, rfl⟩
    | some l => exact .inl ⟨_, rfl⟩
  · obtain ⟨balls, wl, t, rfl, h0, hl, hw, hb, ha, rfl⟩ := h
    have elen : ∀ (M : Addr → Prop) (ρ : List Sl), ρ[0]? = some (.d (.list (balls.map encB))) → Ev K M (tCB (fun xs H Q => ∃ p ys, xs = [.ref p] ∧ (SqL K H p ys ∨ SqT K H p ys) ∧ Q (.int ys.length) H) (tCons (tVar 0) tNil)) ρ (.int (balls.length : Nat)) := fun M ρ e => by
      have := ev_cb (K := K) (M := M) (ag_cons (ev_var e) ag_nil) cb_lenL
      rw [List.length_map] at this
      exact this
    by_cases two : balls.length = 2 ∧ wl = none
    · obtain ⟨l2, rfl⟩ := two
      match balls, l2, h0, hl, hw, hb, elen with
      | [a, b], _, h0, hl, hw, hb, elen =>
        have ha := hb a (by simp)
        have hb' := hb b (by simp)
        obtain ⟨a0, a1⟩ := hw a (by simp)
        obtain ⟨b0, b1⟩ := hw b (by simp)
        refine s_seq (s_ifT (te_and (c := true) (e := true) ((te_test (ev_op (elen _ _ rfl) ev_int od_eqI)).eq rfl) fun _ => te_test (ev_op (ev_var rfl) ev_non od_isN)) ?_)
        exact s_ret (ev_fn (ag_cons (ev_ixLn (j := 0) (xs := [encB a, encB b]) (ev_var rfl) ev_int rfl) (ag_cons (ev_ixLn (j := 1) (xs := [encB a, encB b]) (ev_var rfl) ev_int rfl) ag_nil)) ⟨a, b, rfl, ha, hb', a0, a1, b0, b1, rfl⟩) (.inl rfl)
    · have et : together balls wl = if decide (1 < balls.length) && unlike balls then none else some (rise (backBy wl (balls.map Ball.s))) := by
        unfold together
        match balls, wl, two with
        | [a, b], none, two => exact absurd ⟨rfl, rfl⟩ two
        | [], _, _ => rfl
        | [a], _, _ => rfl
        | a :: b :: c :: r, _, _ => rfl
        | [a, b], some x, _ => rfl
      have c1 : (decide ((balls.length : Int) = 2) && decide (wl = none)) = false := by
        rw [Bool.and_eq_false_iff]
        by_cases h2 : balls.length = 2
        · exact .inr (decide_eq_false fun z => two ⟨h2, z⟩)
        · exact .inl (decide_eq_false (by omega))
      have isn : isNone (encW wl) = decide (wl = none) := by
        cases wl with
        | none => rfl
        | some a => rfl
      refine s_seq (s_ifF ((te_and (te_test (ev_op (elen _ _ rfl) ev_int od_eqI)) fun _ => te_test (ev_op (ev_var rfl) ev_non od_isN)).eq (by rw [isn]; exact c1)) (s_next ?_))
      match balls, h0, hl, hw, hb, et, elen with
      | b0 :: br, h0, hl, hw, hb, et, elen =>
        have un : unlike (b0 :: br) = ((b0 :: br).map fun c => !decide (c.w = b0.w)).any id := by
          show (b0 :: br).any (fun c => !decide (c.w = b0.w)) = _
          rw [List.any_map]
          rfl
        have e2 : Te K (fun _ => False) (tAnd (tTest (tOp (rI0 fun i j => .bl (decide (j < i))) (tCB (fun xs H Q => ∃ p ys, xs = [.ref p] ∧ (SqL K H p ys ∨ SqT K H p ys) ∧ Q (.int ys.length) H) (tCons (tVar 0) tNil)) (tC (.int 1))))
            (tB (tCB (rAny K) (tCons (tLc (iList K (tVar 0)) (gName 4) tYes (tOp rNe (tOp (rIxT K) (tVar 4) (tC (.int 2))) (tOp (rIxT K) (tOp (rIxL K) (tVar 0) (tC (.int 0))) (tC (.int 2)))) [4]) tNil))))
            [.d (.list ((b0 :: br).map encB)), .d (encW wl), .d (encR t), .u, .u, .u] (decide (1 < (b0 :: br).length) && unlike (b0 :: br)) := by
          have d1 : decide ((1 : Int) < ((b0 :: br).length : Nat)) = decide (1 < (b0 :: br).length) := by
            rw [decide_eq_decide]; omega
          rw [← d1]
          refine te_and (te_test (ev_op (elen _ _ rfl) ev_int od_gt)) fun _ => te_val ?_
          rw [un]
          refine ev_cb (ag_cons (Ev.eq (EL.ev (el_mapLf encB (zs := b0 :: br) (h := fun c => PyData.bool (!decide (c.w = b0.w))) (ev_var rfl) (by omega) fun c hc => ?_)) (by rw [List.map_map]; rfl)) ag_nil) cb_any
          refine ⟨_, te_name (by decide), (ev_op (ev_we (b := c) (ev_var rfl) ev_int) (ev_we (b := b0) (ev_ixLn (j := 0) (xs := (b0 :: br).map encB) (ev_var rfl) ev_int rfl) ev_int) od_neI).eq ?_⟩
          rw [show decide ((c.w : Int) = (b0.w : Int)) = decide (c.w = b0.w) from by rw [decide_eq_decide]; omega]
        refine s_seq (s_if e2 (fun c => ?_) fun c => s_next ?_)
        · rw [if_pos c] at et
          rw [et]
          exact s_raise (ag_cons (ev_var rfl) ag_nil) (.inl rfl)
        · rw [if_neg (by rw [c]; decide)] at et
          rw [et]
          have hsp : ∀ x ∈ (b0 :: br).map Ball.s, Sm 2000 x := fun x hx => by
            obtain ⟨b, hb', rfl⟩ := List.mem_map.mp hx
            exact hb b hb'
          have hok := mem_back hsp ha
          have hlr : (backBy wl ((b0 :: br).map Ball.s)).length = (b0 :: br).length := by
            cases wl with
            | none => exact List.length_map _
            | some a => show (List.map _ _).length = _; rw [List.length_map, List.length_map]
          have fin : ∀ s4 s5, S K (fun _ => False) W (tRet (tCall (spF K R_rising) [] E0 (tCons (tVar 3) tNil))) [.d (.list ((b0 :: br).map encB)), .d (encW wl), .d (encR t), .d (.list ((backBy wl ((b0 :: br).map Ball.s)).map encR)), s4, s5] (fun o' => o' = outT cT (some (rise (backBy wl ((b0 :: br).map Ball.s)))) ∨ (outT cT (some (rise (backBy wl ((b0 :: br).map Ball.s)))) = .rt .none ∧ ∃ ρ, o' = .nx ρ)) := fun s4 s5 =>
            s_ret (ev_fn (ag_cons (ev_var rfl) ag_nil) ⟨_, rfl, by rw [hlr]; exact hl, hok, rfl⟩) (.inl rfl)
          refine s_seq (s_setL (xs := ((b0 :: br).map Ball.s).map encR) (by
            rw [List.map_map]
            exact el_mapLf encB (zs := b0 :: br) (h := fun b => encR b.s) (ev_var rfl) (by omega) fun c hc => ⟨_, te_name (by decide), ev_sp (a := c.th) (r := [.int (c.w : Int)]) (ev_var rfl) ev_int⟩) ?_)
          refine s_freeze (i := 3) rfl ?_
          cases wl with
          | none =>
            refine s_seq (s_ifF (te_test (ev_op (ev_var (d := .none) rfl) ev_non od_notN)) (s_next ?_))
            exact fin _ _
          | some a =>
            refine s_seq (s_ifT (te_test (ev_op (ev_var (d := encT a []) rfl) ev_non od_notN)) (s_setL (xs := (backBy (some a) ((b0 :: br).map Ball.s)).map encR) (by
              have e5 : (backBy (some a) ((b0 :: br).map Ball.s)).map encR = ((b0 :: br).map Ball.s).map fun v => encR (2 * a.2 - v) := by
                show (((b0 :: br).map Ball.s).map fun v => 2 * a.2 - v).map encR = _
                rw [List.map_map]
                rfl
              rw [e5]
              refine el_mapLf encR (zs := (b0 :: br).map Ball.s) (h := fun v => encR (2 * a.2 - v)) (ev_var rfl) (by rw [List.length_map]; omega) fun v hv => ⟨_, te_name (by decide), ?_⟩
              have e22 : Ev K (fun _ => False) (tTup (tCons (tC (.int 2)) (tCons (tC (.int 1)) tNil))) ((wipeS [.d (.list ((b0 :: br).map encB)), .d (encT a []), .d (encR t), .d (.list (((b0 :: br).map Ball.s).map encR)), .u, .u] [5]).set 5 (.d (encR v))) (encR 2) := ev_tup (ag_cons ev_int (ag_cons ev_int ag_nil))
              exact ev_minus (ev_times e22 (ev_sp (a := a) (r := []) (ev_var rfl) ev_int) (Sm.mono (n := 2) ⟨by decide, by decide⟩ (by decide)) ((ha a rfl).mono (by decide))) (ev_var rfl) (Sz2.mul (ha a rfl)) ((hsp v hv).mono (by decide))) ?_))
            refine s_freeze (i := 3) rfl ?_
            exact fin _ _
end
end K57
/-! F7: comings, the end -/
namespace K57
open PySem PySem.Spec PyProof.Rows L2 PD M
theorem rise_len (l : List Rat) : (rise l).length = l.length := by
  have key : ∀ k, k ≤ l.length → (riseUp l k).length = k := by
    intro k
    induction k with
    | zero => intro _; rfl
    | succ k ih =>
      intro hk
      have e : l[k]? = some l[k] := List.getElem?_eq_getElem (by omega)
      have h := firstAt_le l[k] (riseUp l k)
      show (match l[k]? with | some x => insR x (riseUp l k) | none => riseUp l k).length = k + 1
      rw [e]
      show (insR l[k] (riseUp l k)).length = k + 1
      rw [insR_eq]
      simp only [List.length_append, List.length_take, List.length_drop, List.length_singleton]
      have := ih (by omega)
      omega
  exact key _ (Nat.le_refl _)
theorem together_len {balls : List Ball} {wl : Wl} {sp : List Rat} (h : together balls wl = some sp) : sp.length = balls.length := by
  unfold together at h
  split at h
  · cases h
    rfl
  · split at h
    · cases h
    · cases h
      rw [rise_len]
      unfold backBy
      split <;> simp
theorem putUp_len (f : List Ball) (first : Nat) (balls : List Ball) (sp : List Rat) : ∀ k, (putUp f first balls sp k).length = f.length
  | 0 => rfl
  | k + 1 => by
    unfold putUp
    split
    · rw [List.length_set]
      exact putUp_len f first balls sp k
    · exact putUp_len f first balls sp k
theorem putUp_out (f : List Ball) (first : Nat) (balls : List Ball) (sp : List Rat) {j : Nat} : ∀ k, (j < first ∨ first + k ≤ j) → (putUp f first balls sp k)[j]? = f[j]?
  | 0, _ => rfl
  | k + 1, h => by
    unfold putUp
    split
    · rw [List.getElem?_set_ne (by omega)]
      exact putUp_out f first balls sp k (by omega)
    · exact putUp_out f first balls sp k (by omega)
theorem rebUp_none {row : List Ball} {ws : Ws} {gs : List Grp} {k : Nat} (h : rebUp row ws gs k = none) : ∀ j, k ≤ j → rebUp row ws gs j = none
  | 0, hj => by
    have : k = 0 := by omega
    subst this
    exact h
  | j + 1, hj => by
    by_cases e : k = j + 1
    · subst e
      exact h
    · have ih := rebUp_none h j (by omega)
      show (match rebUp row ws gs j, gs[j]? with | some f, some g => (match together (slice row g) (wallNamed ws g.wh) with | some sp => some (putUp f g.first (slice row g) sp sp.length) | none => none) | r, _ => r) = none
      rw [ih]
theorem slice_len {row : List Ball} {g : Grp} (h1 : g.first ≤ g.last) (h2 : g.last < row.length) : (slice row g).length = g.last + 1 - g.first := by
  unfold slice
  rw [List.length_take, List.length_drop]
  omega
theorem slice_get {row : List Ball} {g : Grp} {j : Nat} (h : j < g.last + 1 - g.first) : (slice row g)[j]? = row[g.first + j]? := by
  unfold slice
  rw [List.getElem?_take_of_lt h, List.getElem?_drop]
theorem Inc.lt {n : Nat} {gs : List Grp} (h : Inc n gs) : ∀ {k m : Nat} {g g' : Grp}, m < k → gs[m]? = some g → gs[k]? = some g' → g.last < g'.first
  | k + 1, m, g, g', hm, e1, e2 => by
    have hk : k < gs.length := by
      have := (List.getElem?_eq_some_iff.mp e2).1
      omega
    have ek : gs[k]? = some gs[k] := List.getElem?_eq_getElem hk
    have h2 := h.inc k gs[k] g' ek e2
    by_cases z : m = k
    · subst z
      rw [ek] at e1
      cases e1
      exact h2
    · have h1 := Inc.lt h (k := k) (m := m) (by omega) e1 ek
      have := (h.ok gs[k] (List.getElem_mem hk)).1
      omega
theorem rebUp_some {row : List Ball} {ws : Ws} {gs : List Grp} : ∀ {k : Nat} {f : List Ball}, Inc row.length gs → k ≤ gs.length → rebUp row ws gs k = some f → f.length = row.length ∧ ∀ j, (∀ m g, m < k → gs[m]? = some g → g.last < j) → f[j]? = row[j]?
  | 0, f, _, _, h => by
    cases h
    exact ⟨rfl, fun _ _ => rfl⟩
  | k + 1, f, hi, hk, h => by
    have ek : gs[k]? = some gs[k] := List.getElem?_eq_getElem (by omega)
    have h' : (match rebUp row ws gs k, gs[k]? with | some f, some g => (match together (slice row g) (wallNamed ws g.wh) with | some sp => some (putUp f g.first (slice row g) sp sp.length) | none => none) | r, _ => r) = some f := h
    cases e0 : rebUp row ws gs k with
    | none => rw [e0] at h'; cases h'
    | some f0 =>
      rw [e0, ek] at h'
      have h2 : (match together (slice row gs[k]) (wallNamed ws gs[k].wh) with | some sp => some (putUp f0 gs[k].first (slice row gs[k]) sp sp.length) | none => none) = some f := h'
      cases e1 : together (slice row gs[k]) (wallNamed ws gs[k].wh) with
      | none => rw [e1] at h2; cases h2
      | some sp =>
        rw [e1] at h2
        cases h2
        obtain ⟨l0, u0⟩ := rebUp_some hi (by omega) e0
        refine ⟨by rw [putUp_len, l0], fun j hj => ?_⟩
        have hg := hi.ok gs[k] (List.getElem_mem (by omega))
        have hs := together_len e1
        rw [slice_len hg.1 hg.2] at hs
        have := hj k gs[k] (Nat.lt_succ_self _) ek
        rw [putUp_out _ _ _ _ _ (by omega)]
        exact u0 j fun m g hm e => hj m g (by omega) e
theorem cutL_slice {α : Type} {l : List α} {a b : Nat} (h1 : a ≤ b) (h2 : b < l.length) : cutL l (some (a : Int)) (some ((b + 1 : Nat) : Int)) = (l.drop a).take (b + 1 - a) := by
  unfold cutL
  rw [HT.sIx_nat l.length 0 a, HT.sIx_nat l.length l.length (b + 1), Nat.min_eq_left (by omega), Nat.min_eq_left (by omega)]
section
variable {P : Program} {w : World} {K : PySem.W.Frag} {mg : Str → Option Value} {base : Heap}
theorem sc_rebounded : FnScope ["row", "walls", "groups", "moment", "found", "first", "last", "where", "balls", "speeds", "k", "speed"] ["row", "walls", "groups", "moment"] (defScope (top 48)) := ⟨rfl, rfl, rfl, by decide +kernel, rfl, by decide +kernel, by decide +kernel⟩
theorem ok_rebounded {f aN aO : Addr} {fd : FuncData} (T : Txt K mg aN aO) {cT cS : Addr}   (C_together_speeds : Cal P w K mg base (L2.CX P w) 5 "together_speeds" ["balls", "wall", "moment"] [] (spF K (R_together_speeds cT))) (C_wall_named : Cal P w K mg base CX0 1 "wall_named" ["walls", "where"] [] (spF K R_wall_named))  (F : FunD K "rebounded" "rebounded" (defArgs (top 48)) (defBody (top 48)) (defScope (top 48)) [] [] f fd) : FnOk P w K mg base (L2.CX P w) 6 f fd ["row", "walls", "groups", "moment"] (spF K (R_rebounded cT)) := by
  refine ok_def F sc_rebounded (fun ds o h => ?_) (fun cdv A outer s H W hr => ⟨_, (pss_cons (ps_set (i := 4) sc_rebounded.nd rfl (Or.inl rfl) (pe_callTy call_list_of (by rfl) T.f_list (by decide +kernel) (pa_cons (pv 0) pa_nil)))
      (pss_cons (ps_for (passes_of rfl) rfl (pi_list (pv 2)) (pg_tup rfl (pgs_cons (pg_name (i := 5) sc_rebounded.nd rfl (Or.inl rfl)) (pgs_cons (pg_name (i := 6) sc_rebounded.nd rfl (Or.inl rfl)) (pgs_cons (pg_name (i := 7) sc_rebounded.nd rfl (Or.inl rfl)) pgs_nil)))) (pss_cons (ps_set (i := 8) sc_rebounded.nd rfl (Or.inl rfl) (pe_slice sl_list (pv 4) (po_some (pv 5)) (po_some (pe_op op_add (pv 6) pe_int))))
      (pss_cons (ps_set (i := 9) sc_rebounded.nd rfl (Or.inl rfl) (pe_cal C_together_speeds (hr.mono (by decide)) (passes_call (takes_of rfl rfl rfl rfl) fun _ _ _ _ h => h) (pa_cons (pv 8) (pa_cons (pe_cal C_wall_named (hr.mono (by decide)) pass0 (pa_cons (pv 1) (pa_cons (pv 7) pa_nil))) (pa_cons (pv 3) pa_nil)))))
      (pss_one (ps_for (passes_of rfl) rfl (pi_enum (by rfl) T.f_enumerate (pa_cons (pv 9) pa_nil)) (pg_tup rfl (pgs_cons (pg_name (i := 10) sc_rebounded.nd rfl (Or.inl rfl)) (pgs_cons (pg_name (i := 11) sc_rebounded.nd rfl (Or.inl rfl)) pgs_nil))) (pss_one (ps_asg (pe_tup (pa_cons (pe_ix ix_tup (pe_ix ix_list (pv 8) (pv 10) (fun _ _ => rfl)) (pe_gint T.cPLACE) (fun _ _ => rfl)) (pa_cons (pv 11) (pa_cons (pe_ix ix_tup (pe_ix ix_list (pv 8) (pv 10) (fun _ _ => rfl)) (pe_gint T.cWEIGHT) (fun _ _ => rfl)) pa_nil)))) (pg_sub (pv 4) (pe_op op_add (pv 5) (pv 10)) set_list))))))))
      (pss_one (ps_ret (pe_callTy call_tuple_of (by rfl) T.f_tuple (by decide +kernel) (pa_cons (pv 4) pa_nil)))))), fun ds o h => ?_⟩)
  · obtain ⟨row, ws, gs, t, rfl, _, _, _, _, _, _, _, rfl⟩ := h
    refine ⟨rfl, ?_⟩
    cases rebound row ws gs with
    | none => exact .inr ⟨_, rfl⟩
    | some l => exact .inl ⟨_, rfl⟩
  · obtain ⟨row, ws, gs, t, rfl, hl, hgl, hw, hb, h1, h2, hi, rfl⟩ := h
    refine s_seq (s_setL (el_listL (ev_var rfl)) ?_)
    refine s_seq (s_forL (xs := gs.map encG) (fun k ρ => ∃ f s5 s6 s7 s8 s9 s10 s11, rebUp row ws gs k = some f ∧ ρ = [.d (.list (row.map encB)), .d (encWs ws), .d (.list (gs.map encG)), .d (encR t), .l (f.map encB), s5, s6, s7, s8, s9, s10, s11]) (ev_var rfl) ⟨row, _, _, _, _, _, _, _, rfl, rfl⟩ ?_ ?_)
    · rintro k x ρ hx ⟨f, s5, s6, s7, s8, s9, s10, s11, hf, rfl⟩
      rw [List.getElem?_map] at hx
      cases eg : gs[k]? with
      | none => rw [eg] at hx; cases hx
      | some g =>
        rw [eg] at hx
        cases hx
        have hk : k < gs.length := (List.getElem?_eq_some_iff.mp eg).1
        obtain ⟨g1, g2⟩ := hi.ok g (List.mem_of_getElem? eg)
        obtain ⟨fl, fu⟩ := rebUp_some hi (by omega) hf
        have hsl : (f.drop g.first).take (g.last + 1 - g.first) = slice row g := by
          refine List.ext_getElem? fun j => ?_
          unfold slice
          by_cases hj : j < g.last + 1 - g.first
          · rw [List.getElem?_take_of_lt hj, List.getElem?_take_of_lt hj, List.getElem?_drop, List.getElem?_drop]
            exact fu _ fun m g' hm e => by have := hi.lt hm e eg; omega
          · rw [List.getElem?_take_eq_none (by omega), List.getElem?_take_eq_none (by omega)]
        have hcut : cutL (f.map encB) (some (g.first : Int)) (some ((g.last : Int) + 1)) = (slice row g).map encB := by
          have := cutL_slice (l := f.map encB) (a := g.first) (b := g.last) g1 (by rw [List.length_map]; omega)
          rw [Int.natCast_add] at this
          rw [show ((g.last : Int) + 1) = (g.last : Int) + ((1 : Nat) : Int) from rfl, this, ← hsl, List.map_take, List.map_drop]
        have hsn := slice_len g1 g2
        have hmem : ∀ b ∈ slice row g, b ∈ row := fun b hb => List.mem_of_mem_drop (List.mem_of_mem_take hb)
        have hwn : ∀ a, wallNamed ws g.wh = some a → Sm 2000 a.2 := fun a e => by
          unfold wallNamed at e
          split at e
          · exact h1 a e
          · split at e
            · exact h2 a e
            · cases e
        have st : rebUp row ws gs (k + 1) = match together (slice row g) (wallNamed ws g.wh) with | some sp => some (putUp f g.first (slice row g) sp sp.length) | none => none := by
          show (match rebUp row ws gs k, gs[k]? with | some f, some g => (match together (slice row g) (wallNamed ws g.wh) with | some sp => some (putUp f g.first (slice row g) sp sp.length) | none => none) | r, _ => r) = _
          rw [hf, eg]
        refine ⟨_, tg_tup rfl (tgA_cons tg_name (tgA_cons tg_name (tgA_cons tg_name tgA_nil))), ?_⟩
        refine s_seq (s_setL (xs := (slice row g).map encB) (by rw [← hcut]; exact el_slO (i := 4) rfl (pr_some (ev_var rfl)) (pr_some (ev_add (ev_var rfl) ev_int))) ?_)
        refine s_freeze (i := 8) rfl ?_
        refine s_seq (s_setX (o := outT cT (together (slice row g) (wallNamed ws g.wh))) (ag_cons (ev_var rfl) (ag_cons (ev_fn (ag_cons (ev_var rfl) (ag_cons (ev_var rfl) ag_nil)) ⟨ws, g.wh, rfl, rfl⟩) (ag_cons (ev_var rfl) ag_nil))) ⟨slice row g, wallNamed ws g.wh, t, rfl, by omega, by omega, fun b hb' => hw b (hmem b hb'), fun b hb' => hb b (hmem b hb'), hwn, rfl⟩ ?_ ?_)
        · intro d ed
          cases et : together (slice row g) (wallNamed ws g.wh) with
          | none => rw [et] at ed; cases ed
          | some sp =>
            rw [et] at ed
            cases ed
            have hspl := together_len et
            rw [et] at st
            have st2 : rebUp row ws gs (k + 1) = some (putUp f g.first (slice row g) sp sp.length) := st
            refine s_forE (xs := sp.map encR) (fun j ρ => ∃ s10 s11, ρ = [.d (.list (row.map encB)), .d (encWs ws), .d (.list (gs.map encG)), .d (encR t), .l ((putUp f g.first (slice row g) sp j).map encB), .d (.int (g.first : Int)), .d (.int (g.last : Int)), .d (.str g.wh), .d (.list ((slice row g).map encB)), .d (.list (sp.map encR)), s10, s11]) (ag_cons (ev_var rfl) ag_nil) ⟨_, _, rfl⟩ ?_ ?_
            · rintro j y ρ hy ⟨s10, s11, rfl⟩
              rw [List.getElem?_map] at hy
              cases es : sp[j]? with
              | none => rw [es] at hy; cases hy
              | some v =>
                rw [es] at hy
                cases hy
                have hj : j < sp.length := (List.getElem?_eq_some_iff.mp es).1
                have eb : (slice row g)[j]? = some (slice row g)[j] := List.getElem?_eq_getElem (by omega)
                have ebm : ((slice row g).map encB)[j]? = some (encB (slice row g)[j]) := by rw [List.getElem?_map, eb]; rfl
                have s2 : putUp f g.first (slice row g) sp (j + 1) = (putUp f g.first (slice row g) sp j).set (g.first + j) ⟨(slice row g)[j].p, v, (slice row g)[j].w⟩ := by
                  show (match (slice row g)[j]?, sp[j]? with | some b, some v => (putUp f g.first (slice row g) sp j).set (g.first + j) ⟨b.p, v, b.w⟩ | _, _ => putUp f g.first (slice row g) sp j) = _
                  rw [eb, es]
                refine ⟨_, tg_tup rfl (tgA_cons tg_name (tgA_cons tg_name tgA_nil)), ?_⟩
                refine s_put (i := 4) (k := g.first + j) (d := encB ⟨(slice row g)[j].p, v, (slice row g)[j].w⟩) rfl (ev_tup (ag_cons (ev_pl (a := (slice row g)[j].th) (r := [.int ((slice row g)[j].w : Int)]) (ev_ixLn (j := j) (xs := (slice row g).map encB) (ev_var rfl) (ev_var rfl) ebm) ev_int) (ag_cons (ev_var rfl) (ag_cons (ev_we (b := (slice row g)[j]) (ev_ixLn (j := j) (xs := (slice row g).map encB) (ev_var rfl) (ev_var rfl) ebm) ev_int) ag_nil)))) ((ev_add (ev_var rfl) (ev_var rfl)).eq (by rw [Int.natCast_add])) (by rw [List.length_map, putUp_len]; omega) ?_
                refine ⟨.d (.int (j : Int)), .d (encR v), ?_⟩
                rw [s2, List.map_set]
                rfl
            · rintro ρ ⟨s10, s11, rfl⟩
              rw [List.length_map]
              exact ⟨_, _, _, _, _, _, _, _, st2, rfl⟩
        · intro C ed
          cases et : together (slice row g) (wallNamed ws g.wh) with
          | some sp => rw [et] at ed; cases ed
          | none =>
            rw [et] at ed st
            cases ed
            have : rebound row ws gs = none := rebUp_none (k := k + 1) st _ (by omega)
            rw [this]
            exact .inl rfl
    · rintro ρ ⟨f, s5, s6, s7, s8, s9, s10, s11, hf, rfl⟩
      rw [List.length_map] at hf
      refine s_freeze (i := 4) rfl (s_ret (ev_cb (ag_cons (ev_var rfl) ag_nil) cb_tupleL) (.inl ?_))
      have : rebound row ws gs = some f := hf
      rw [this]
      rfl
end
end K57
/-! F8: the next coming, and what is behind it -/
namespace K57
open PySem PySem.Spec PyProof.Rows L2 PD M
theorem better_cases {b m r : Option Rat} (h : better b m = r) : r = b ∨ r = m := by
  subst h
  cases m with
  | none => exact .inl rfl
  | some t =>
    cases b with
    | none => exact .inr rfl
    | some c =>
      show (if t < c then some t else some c) = some c ∨ (if t < c then some t else some c) = some t
      split
      · exact .inr rfl
      · exact .inl rfl
theorem leastUp_from {th : List Th} {t : Rat} : ∀ {k : Nat}, leastUp th k = some t → ∃ m a b, m < k ∧ th[m]? = some a ∧ th[m + 1]? = some b ∧ meet a b = some t
  | 0, h => by cases h
  | k + 1, h => by
    unfold leastUp at h
    split at h
    · rename_i a b ha hb
      rcases better_cases h with e | e
      · obtain ⟨m, a', b', h1, h2⟩ := leastUp_from e.symm
        exact ⟨m, a', b', by omega, h2⟩
      · exact ⟨k, a, b, by omega, ha, hb, e.symm⟩
    · obtain ⟨m, a', b', h1, h2⟩ := leastUp_from h
      exact ⟨m, a', b', by omega, h2⟩
theorem meet_some {a b : Th} {t : Rat} (h : meet a b = some t) : b.2 < a.2 ∧ t = (b.1 - a.1) / (a.2 - b.2) := by
  unfold meet at h
  split at h
  · rename_i c
    cases h
    exact ⟨c, rfl⟩
  · cases h
theorem Sz.least {th : List Th} (h : Sz th) {t : Rat} (e : least th = some t) : Sm 2600 t := by
  obtain ⟨m, a, b, _, ha, hb, em⟩ := leastUp_from e
  obtain ⟨_, rfl⟩ := meet_some em
  exact h.m a (List.mem_of_getElem? ha) b (List.mem_of_getElem? hb)
theorem things_ball {row : List Ball} {ws : Ws} {b : Ball} (h : b ∈ row) : b.th ∈ things row ws := List.mem_append_left _ (List.mem_append_right _ (List.mem_map_of_mem h))
theorem things_lo {row : List Ball} {ws : Ws} {a : Th} (h : ws.1 = some a) : a ∈ things row ws := List.mem_append_left _ (List.mem_append_left _ (by rw [h]; simp))
theorem things_hi {row : List Ball} {ws : Ws} {a : Th} (h : ws.2 = some a) : a ∈ things row ws := List.mem_append_right _ (by rw [h]; simp)
theorem groups_len (row : List Ball) (ws : Ws) : ∀ k, (gUp row ws k).1.length ≤ k
  | 0 => Nat.le_refl _
  | k + 1 => by
    have ih := groups_len row ws k
    unfold gUp
    split
    · split
      · show (if _ then _ else _ : List Grp).length ≤ _
        split
        · rw [List.length_append, List.length_singleton]; omega
        · omega
      · omega
    · omega
theorem gUp_succ {row : List Ball} {ws : Ws} {k : Nat} {b : Ball} (e : row[k]? = some b) : gUp row ws (k + 1) = if endsAt row k then ((if decide ((gUp row ws k).2 < k) || comesTo b.s ws (wallThere ws b.p) then (gUp row ws k).1 ++ [⟨(gUp row ws k).2, k, wallThere ws b.p⟩] else (gUp row ws k).1), k + 1) else gUp row ws k := by
  show (match row[k]? with | some b => _ | none => _) = _
  rw [e]
/-- the groups told so far lie ahead of the next one's first ball -/
theorem gUp_inc (row : List Ball) (ws : Ws) : ∀ k, k ≤ row.length → (gUp row ws k).2 ≤ k ∧ (∀ g ∈ (gUp row ws k).1, g.first ≤ g.last ∧ g.last < (gUp row ws k).2) ∧ (∀ (m : Nat) (g h : Grp), (gUp row ws k).1[m]? = some g → (gUp row ws k).1[m + 1]? = some h → g.last < h.first)
  | 0, _ => ⟨Nat.le_refl _, fun g hg => (nomatch hg), fun m g h e _ => by cases e⟩
  | k + 1, hk => by
    obtain ⟨i1, i2, i3⟩ := gUp_inc row ws k (by omega)
    have eb : row[k]? = some row[k] := List.getElem?_eq_getElem (by omega)
    rw [gUp_succ eb]
    by_cases c1 : endsAt row k = true
    · rw [if_pos c1]
      by_cases c2 : (decide ((gUp row ws k).2 < k) || comesTo row[k].s ws (wallThere ws row[k].p)) = true
      · rw [if_pos c2]
        refine ⟨Nat.le_refl _, fun g hg => ?_, fun m g h e1 e2 => ?_⟩
        · rcases List.mem_append.mp hg with hg | hg
          · have := i2 g hg
            show g.first ≤ g.last ∧ g.last < k + 1
            omega
          · rw [List.mem_singleton.mp hg]
            show (gUp row ws k).2 ≤ k ∧ k < k + 1
            omega
        · by_cases hm : m + 1 < (gUp row ws k).1.length
          · rw [List.getElem?_append_left hm] at e2
            rw [List.getElem?_append_left (by omega)] at e1
            exact i3 m g h e1 e2
          · have hm2 := (List.getElem?_eq_some_iff.mp e2).1
            rw [List.length_append, List.length_singleton] at hm2
            have hme : m + 1 = (gUp row ws k).1.length := by omega
            rw [List.getElem?_append_right (by omega), show m + 1 - (gUp row ws k).1.length = 0 by omega] at e2
            cases e2
            rw [List.getElem?_append_left (by omega)] at e1
            exact (i2 g (List.mem_of_getElem? e1)).2
      · rw [if_neg c2]
        refine ⟨Nat.le_refl _, fun g hg => ?_, i3⟩
        have := i2 g hg
        show g.first ≤ g.last ∧ g.last < k + 1
        omega
    · rw [if_neg c1]
      exact ⟨by omega, i2, i3⟩
theorem groups_inc (row : List Ball) (ws : Ws) : Inc row.length (groups row ws) := by
  obtain ⟨i1, i2, i3⟩ := gUp_inc row ws row.length (Nat.le_refl _)
  exact ⟨fun g hg => by have := i2 g hg; omega, i3⟩
theorem s_retX {K : PySem.W.Frag} {M : Addr → Prop} {W : XK} {ρ : List Sl} {ta tb : TE} {tA : TA} {R : List PyData → Out → Prop} {a b : PyData} {ds : List PyData} {o : Out} {Φ : Out → Prop} (ha : Ev K M ta ρ a) (hA : Ag K M tA ρ ds) (h : R ds o) (hb : Ev K M tb ρ b)
    (q1 : ∀ d, o = .rt d → Φ (.rt (.tuple [a, d, b]))) (q2 : ∀ C, o = .ex C → Φ (.ex C)) : S K M W (tRet (tTup (tCons ta (tCons (tCall (spF K R) [] W tA) (tCons tb tNil))))) ρ Φ := fun H0 F0 F H σ D s _ k2 _ _ k5 =>
  ha F H σ s.st.fh s.sl _ fun d1 v1 F1 H1 e1 s1 r1 => by
    subst e1
    have o1 := s.sl.step s1
    refine hA F1 H1 σ s1.fh o1 _ fun ds' vs F2 H2 e2 s2 r2 => ?_
    subst e2
    have o2 := o1.step s2
    have st2 := (s.st.trans s.m0 s1).trans s.m0 s2
    refine ⟨F2, ds', o, s2.fh, by rw [List.append_nil]; exact r2, h, fun d v F3 H3 e s3 rv => ?_, fun C dd F3 H3 e s3 => ?_⟩
    · have s3' : Step M F2 H2 F3 H3 := s3.weak
      have o3 := o2.step s3'
      have st3 := st2.trans s.m0 s3'
      refine hb F3 H3 σ s3.fh o3 _ fun d4 v4 F4 H4 e4 s4 r4 => ?_
      subst e4
      have st4 := st3.trans s.m0 s4
      refine ⟨Nat.le_of_lt (small (show 3 ≤ 1000 by decide)), fun p np => ?_⟩
      have sn : Step M F4 H4 (upd F4 p (.tup [v1, v, v4])) (upd H4 p (.tup [v1, v, v4])) := .new s4.fh np
      refine k2 _ _ _ _ (q1 d e) (st4.trans s.m0 sn) (.tup (.inl (.inl upd_same)) (.cons (r1.up (((s2.ff.trans s3.ff).trans s4.ff).trans sn.ff)) (.cons (rv.up (s4.ff.trans sn.ff)) (.cons (r4.up sn.ff) .nil))))
    · exact k5 C dd F3 H3 (q2 C e) (st2.trans s.m0 s3.weak)
section
variable {P : Program} {w : World} {K : PySem.W.Frag} {mg : Str → Option Value} {base : Heap}
theorem okAt_ball {row : List Ball} {ws : Ws} (h : RowOk row ws) {t : Rat} (ht : Sm 2600 t) {b : Ball} (hb : b ∈ row) : OkAt b.th t := OkAt.of (h.sz.p _ (things_ball hb)) (h.sz.s _ (things_ball hb)) ht
theorem okW_lo {row : List Ball} {ws : Ws} (h : RowOk row ws) {t : Rat} (ht : Sm 2600 t) : OkW ws.1 t := fun a e => OkAt.of (h.sz.p _ (things_lo e)) (h.sz.s _ (things_lo e)) ht
theorem okW_hi {row : List Ball} {ws : Ws} (h : RowOk row ws) {t : Rat} (ht : Sm 2600 t) : OkW ws.2 t := fun a e => OkAt.of (h.sz.p _ (things_hi e)) (h.sz.s _ (things_hi e)) ht
theorem encO_eqv (t : Rat) (o : Option Rat) : PyData.eqv (encR t) (encO o) = decide (o = some t) := by
  cases o with
  | none => rfl
  | some x =>
    show PyData.eqv (encR t) (encR x) = _
    rw [encR_eqv, decide_eq_decide]
    constructor
    · intro e; rw [e]
    · intro e; exact (Option.some.inj e).symm
theorem encO_shaped (o : Option Rat) : SeqAt.shaped (encO o) = true := by cases o <;> rfl
theorem go_speed {row : List Ball} {t : Rat} {P : Rat → Prop} (h : ∀ b ∈ row, P b.s) : ∀ b ∈ row.map (fun b => b.go t), P b.s := fun b hb => by
  obtain ⟨c, hc, rfl⟩ := List.mem_map.mp hb
  exact h c hc
theorem wsGo_lo {ws : Ws} {t : Rat} {P : Rat → Prop} (h : ∀ a, ws.1 = some a → P a.2) : ∀ a, (wsGo ws t).1 = some a → P a.2 := fun a e => by
  obtain ⟨lo, hi⟩ := ws
  cases lo with
  | none => cases e
  | some b => cases e; exact h b rfl
theorem wsGo_hi {ws : Ws} {t : Rat} {P : Rat → Prop} (h : ∀ a, ws.2 = some a → P a.2) : ∀ a, (wsGo ws t).2 = some a → P a.2 := fun a e => by
  obtain ⟨lo, hi⟩ := ws
  cases hi with
  | none => cases e
  | some b => cases e; exact h b rfl
theorem el_there {M : Addr → Prop} {ρ : List Sl} {row : List Ball} {ws : Ws} {t : Rat} {te tm : TE} {i : Nat} (h : RowOk row ws) (ht : Sm 2600 t) (he : Ev K M te ρ (.tuple (row.map encB))) (hi : ∃ s, ρ[i]? = some s) (hm : ∀ d, Ev K M tm ((wipeS ρ [i]).set i (.d d)) (encR t)) :
    EL K M (tLc (iTup K te) (gName i) tYes (tCall (spF K R_gone_on) [] E0 (tCons (tVar i) (tCons tm tNil))) [i]) ρ ((row.map fun b => b.go t).map encB) := by
  obtain ⟨s0, hs0⟩ := hi
  have hi : i < ρ.length := (List.getElem?_eq_some_iff.mp hs0).1
  rw [List.map_map]
  refine el_mapTf encB (h := fun b => encB (b.go t)) he (by have := h.len; omega) fun b hb => ⟨_, te_name List.mem_cons_self, ?_⟩
  have gi : ((wipeS ρ [i]).set i (.d (encB b)))[i]? = some (.d (encB b)) := List.getElem?_set_self (by show i < (ρ.set i .u).length; rw [List.length_set]; exact hi)
  exact ev_fn (ag_cons (ev_var gi) (ag_cons (hm _) ag_nil)) ⟨b.th, [.int (b.w : Int)], t, rfl, show 1 ≤ 10 by decide, okAt_ball h ht hb, rfl⟩
theorem sc_next_coming : FnScope ["row", "walls", "moment", "there", "ball"] ["row", "walls"] (defScope (top 49)) := ⟨rfl, rfl, rfl, by decide +kernel, rfl, by decide +kernel, by decide +kernel⟩
theorem ok_next_coming {f aN aO : Addr} {fd : FuncData} (T : Txt K mg aN aO) {cT cS : Addr} (X_Shut : ExC P w K mg base "Shut" cS)  (C_least_moment : Cal P w K mg base CX0 5 "least_moment" ["row", "walls"] [] (spF K R_least_moment)) (C_shut_moment : Cal P w K mg base CX0 5 "shut_moment" ["walls"] [] (spF K R_shut_moment)) (C_gone_on : Cal P w K mg base CX0 5 "gone_on" ["thing", "t"] [] (spF K R_gone_on)) (C_groups_at : Cal P w K mg base CX0 3 "groups_at" ["row", "walls"] [] (spF K R_groups_at)) (C_walls_at : Cal P w K mg base CX0 6 "walls_at" ["walls", "t"] [] (spF K R_walls_at))  (F : FunD K "next_coming" "next_coming" (defArgs (top 49)) (defBody (top 49)) (defScope (top 49)) [] [] f fd) : FnOk P w K mg base (L2.CX P w) 7 f fd ["row", "walls"] (spF K (R_next_coming cS)) := by
  refine ok_def F sc_next_coming (fun ds o h => ?_) (fun cdv A outer s H W hr => ⟨_, (pss_cons (ps_set (i := 2) sc_next_coming.nd rfl (Or.inr rfl) (pe_cal C_least_moment (hr.mono (by decide)) pass0 (pa_cons (pv 0) (pa_cons (pv 1) pa_nil))))
      (pss_cons (ps_if (pt_cmpR op_isN (pv 2) pe_non (nomark _)) (pss_one (ps_ret pe_non)) pss_nil)
      (pss_cons (ps_if (pt_cmpR (op_eqD hr.units) (pv 2) (pe_cal C_shut_moment (hr.mono (by decide)) pass0 (pa_cons (pv 1) pa_nil)) (nomark _)) (pss_one (ps_raise rfl (takes_of rfl rfl rfl rfl) (pmk_ex X_Shut (hr.mono (by decide)) (pa_cons (pv 2) pa_nil)))) pss_nil)
      (pss_cons (ps_setLc (i := 3) (own := [("ball", 4)]) rfl sc_next_coming.nd rfl rfl (sw_true rfl rfl rfl (by decide +kernel)) (pi_tup (pv 0)) (blkOk_by (N := ["row", "walls", "moment", "there", "ball"]) (sc := defScope (top 49)) (by decide +kernel)) (fun _ _ _ _ _ => (pg_name (i := 4) sc_next_coming.nd rfl (Or.inl rfl))) (fun _ _ _ _ _ => pts_nil) (fun _ _ _ _ _ => (pe_cal C_gone_on (hr.mono (by decide)) pass0 (pa_cons (pv 4) (pa_cons (pv 2) pa_nil)))))
      (pss_one (ps_ret (pe_tup (pa_cons (pv 2) (pa_cons (pe_cal C_groups_at (hr.mono (by decide)) pass0 (pa_cons (pv 3) (pa_cons (pe_cal C_walls_at (hr.mono (by decide)) pass0 (pa_cons (pv 1) (pa_cons (pv 2) pa_nil))) pa_nil))) pa_nil))))))))), fun ds o h => ?_⟩)
  · obtain ⟨row, ws, rfl, _, rfl⟩ := h
    refine ⟨rfl, ?_⟩
    cases nextC row ws with
    | none => exact .inl ⟨_, rfl⟩
    | shut => exact .inr ⟨_, rfl⟩
    | at_ t gs => exact .inl ⟨_, rfl⟩
  · obtain ⟨row, ws, rfl, hr', rfl⟩ := h
    have hsz := hr'.sz
    refine s_seq (s_set (ev_fn (ag_cons (ev_var rfl) (ag_cons (ev_var rfl) ag_nil)) ⟨row, ws, rfl, hr'.len, hsz, rfl⟩) ?_)
    cases el : least (things row ws) with
    | none =>
      have en : nextC row ws = .none := by unfold nextC; rw [el]
      rw [en]
      exact s_seq (s_ifT (te_test (ev_op (ev_var (d := .none) rfl) ev_non od_isN)) (s_ret ev_non (.inl rfl)))
    | some t =>
      have ht := hsz.least el
      refine s_seq (s_ifF (te_test (ev_op (ev_var (d := encR t) rfl) ev_non od_isN)) (s_next ?_))
      have hshut : ∀ a b, ws.1 = some a → ws.2 = some b → OkM a b := fun a b e1 e2 => hsz.okm (things_lo e1) (things_hi e2)
      refine s_seq (s_if ((te_test (ev_op (ev_var (d := encR t) rfl) (ev_fn (ag_cons (ev_var rfl) ag_nil) ⟨ws, rfl, hshut, rfl⟩) (od_eqD (encR_shaped _) (encO_shaped _)))).eq (encO_eqv t (shut ws))) (fun c => ?_) fun c => s_next ?_)
      · have c := of_decide_eq_true c
        have en : nextC row ws = .shut := by
          unfold nextC
          rw [el]
          show (if shut ws = some t then Com.shut else _) = _
          rw [if_pos c]
        rw [en]
        exact s_raise (ag_cons (ev_var rfl) ag_nil) (.inl rfl)
      · have c := of_decide_eq_false c
        have en : nextC row ws = .at_ t (groups (row.map fun b => b.go t) (wsGo ws t)) := by
          unfold nextC
          rw [el]
          show (if shut ws = some t then Com.shut else _) = _
          rw [if_neg c]
        rw [en]
        refine s_seq (s_setL (el_there hr' ht (ev_var rfl) ⟨_, rfl⟩ fun d => ev_var rfl) ?_)
        refine s_freeze (i := 3) rfl ?_
        refine s_ret (ev_tup (ag_cons (ev_var rfl) (ag_cons (ev_fn (ag_cons (ev_var rfl) (ag_cons (ev_fn (ag_cons (ev_var rfl) (ag_cons (ev_var rfl) ag_nil)) ⟨ws, t, rfl, okW_lo hr' ht, okW_hi hr' ht, rfl⟩) ag_nil)) ⟨_, _, rfl, by rw [List.length_map]; exact hr'.len, go_speed (P := Ok) fun b hb => (hsz.s _ (things_ball hb)).mono (by decide), wsGo_lo (P := Ok) fun a e => (hsz.s _ (things_lo e)).mono (by decide), wsGo_hi (P := Ok) fun a e => (hsz.s _ (things_hi e)).mono (by decide), rfl⟩) ag_nil))) (.inl rfl)
theorem sc_behind : FnScope ["row", "walls", "coming", "there", "moment", "groups", "ball"] ["row", "walls"] (defScope (top 50)) := ⟨rfl, rfl, rfl, by decide +kernel, rfl, by decide +kernel, by decide +kernel⟩
theorem ok_behind {f aN aO : Addr} {fd : FuncData} (T : Txt K mg aN aO) {cT cS : Addr}   (C_next_coming : Cal P w K mg base (L2.CX P w) 7 "next_coming" ["row", "walls"] [] (spF K (R_next_coming cS))) (C_walls_at : Cal P w K mg base CX0 6 "walls_at" ["walls", "t"] [] (spF K R_walls_at)) (C_gone_on : Cal P w K mg base CX0 5 "gone_on" ["thing", "t"] [] (spF K R_gone_on)) (C_rebounded : Cal P w K mg base (L2.CX P w) 6 "rebounded" ["row", "walls", "groups", "moment"] [] (spF K (R_rebounded cT)))  (F : FunD K "behind" "behind" (defArgs (top 50)) (defBody (top 50)) (defScope (top 50)) [] [] f fd) : FnOk P w K mg base (L2.CX P w) 8 f fd ["row", "walls"] (spF K (R_behind cT cS)) := by
  refine ok_def F sc_behind (fun ds o h => ?_) (fun cdv A outer s H W hr => ⟨_, (pss_cons (ps_set (i := 2) sc_behind.nd rfl (Or.inl rfl) (pe_cal C_next_coming (hr.mono (by decide)) (passes_call (takes_of rfl rfl rfl rfl) fun _ _ _ _ h => h) (pa_cons (pv 0) (pa_cons (pv 1) pa_nil))))
      (pss_cons (ps_if (pt_cmpR op_isN (pv 2) pe_non (nomark _)) (pss_one (ps_ret pe_non)) pss_nil)
      (pss_cons (ps_asg (pv 2) (pg_tup rfl (pgs_cons (pg_name (i := 4) sc_behind.nd rfl (Or.inr rfl)) (pgs_cons (pg_name (i := 5) sc_behind.nd rfl (Or.inl rfl)) pgs_nil))))
      (pss_cons (ps_set (i := 1) sc_behind.nd rfl (Or.inl rfl) (pe_cal C_walls_at (hr.mono (by decide)) pass0 (pa_cons (pv 1) (pa_cons (pv 4) pa_nil))))
      (pss_cons (ps_setLc (i := 3) (own := [("ball", 6)]) rfl sc_behind.nd rfl rfl (sw_true rfl rfl rfl (by decide +kernel)) (pi_tup (pv 0)) (blkOk_by (N := ["row", "walls", "coming", "there", "moment", "groups", "ball"]) (sc := defScope (top 50)) (by decide +kernel)) (fun _ _ _ _ _ => (pg_name (i := 6) sc_behind.nd rfl (Or.inl rfl))) (fun _ _ _ _ _ => pts_nil) (fun _ _ _ _ _ => (pe_cal C_gone_on (hr.mono (by decide)) pass0 (pa_cons (pv 6) (pa_cons (pv 4) pa_nil)))))
      (pss_one (ps_ret (pe_tup (pa_cons (pv 4) (pa_cons (pe_cal C_rebounded (hr.mono (by decide)) (passes_call (takes_of rfl rfl rfl rfl) fun _ _ _ _ h => h) (pa_cons (pv 3) (pa_cons (pv 1) (pa_cons (pv 5) (pa_cons (pv 4) pa_nil))))) (pa_cons (pv 1) pa_nil))))))))))), fun ds o h => ?_⟩)
  · obtain ⟨row, ws, rfl, _, rfl⟩ := h
    refine ⟨rfl, ?_⟩
    cases behindC row ws with
    | none => exact .inl ⟨_, rfl⟩
    | shut => exact .inr ⟨_, rfl⟩
    | toge => exact .inr ⟨_, rfl⟩
    | at_ t r ws => exact .inl ⟨_, rfl⟩
  · obtain ⟨row, ws, rfl, hr', rfl⟩ := h
    have hsz := hr'.sz
    refine s_seq (s_setX (o := outC cS (nextC row ws)) (ag_cons (ev_var rfl) (ag_cons (ev_var rfl) ag_nil)) ⟨row, ws, rfl, hr', rfl⟩ ?_ ?_)
    · intro d ed
      cases en : nextC row ws with
      | shut => rw [en] at ed; cases ed
      | none =>
        rw [en] at ed
        cases ed
        have eb : behindC row ws = .none := by unfold behindC; rw [en]
        rw [eb]
        exact s_seq (s_ifT (te_test (ev_op (ev_var (d := .none) rfl) ev_non od_isN)) (s_ret ev_non (.inl rfl)))
      | at_ t gs =>
        rw [en] at ed
        cases ed
        have hl : least (things row ws) = some t ∧ gs = groups (row.map fun b => b.go t) (wsGo ws t) := by
          unfold nextC at en
          split at en
          · cases en
          · rename_i t' el
            split at en
            · cases en
            · cases en
              exact ⟨el, rfl⟩
        have ht := hsz.least hl.1
        have hg := hl.2
        refine s_seq (s_ifF (te_test (ev_op (ev_var (d := .tuple [encR t, .list (gs.map encG)]) rfl) ev_non od_isN)) (s_next ?_))
        refine s_seq (s_asg (ev_var rfl) (tg_tup rfl (tgA_cons tg_name (tgA_cons tg_name tgA_nil))) ?_)
        refine s_seq (s_set (ev_fn (ag_cons (ev_var rfl) (ag_cons (ev_var rfl) ag_nil)) ⟨ws, t, rfl, okW_lo hr' ht, okW_hi hr' ht, rfl⟩) ?_)
        refine s_seq (s_setL (el_there hr' ht (ev_var rfl) ⟨_, rfl⟩ fun d => ev_var rfl) ?_)
        refine s_freeze (i := 3) rfl ?_
        have inc := groups_inc (row.map fun b => b.go t) (wsGo ws t)
        rw [← hg] at inc
        have glen : gs.length ≤ 10 := by
          have := groups_len (row.map fun b => b.go t) (wsGo ws t) (row.map fun b => b.go t).length
          have h2 := hr'.len
          rw [List.length_map] at this
          rw [hg]
          show (gUp (row.map fun b => b.go t) (wsGo ws t) (row.map fun b => b.go t).length).1.length ≤ 10
          rw [List.length_map]
          omega
        have hw' : SzW (row.map fun b => b.go t) := fun b hb => by
          obtain ⟨c, hc, rfl⟩ := List.mem_map.mp hb
          exact hr'.w c hc
        refine s_retX (o := outB cT (rebound (row.map fun b => b.go t) (wsGo ws t) gs)) (ev_var rfl) (ag_cons (ev_var rfl) (ag_cons (ev_var rfl) (ag_cons (ev_var rfl) (ag_cons (ev_var rfl) ag_nil)))) ⟨_, _, gs, t, rfl, by rw [List.length_map]; exact hr'.len, glen, hw', go_speed (P := Sm 2000) fun b hb => (hsz.s _ (things_ball hb)).mono (by decide), wsGo_lo (P := Sm 2000) fun a e => (hsz.s _ (things_lo e)).mono (by decide), wsGo_hi (P := Sm 2000) fun a e => (hsz.s _ (things_hi e)).mono (by decide), inc, rfl⟩ (ev_var rfl) ?_ ?_
        · intro d ed
          cases er : rebound (row.map fun b => b.go t) (wsGo ws t) gs with
          | none => rw [er] at ed; cases ed
          | some r =>
            rw [er] at ed
            cases ed
            have eb : behindC row ws = .at_ t r (wsGo ws t) := by
              unfold behindC
              rw [en]
              show (match rebound (row.map fun b => b.go t) (wsGo ws t) gs with | none => Beh.toge | some r => .at_ t r (wsGo ws t)) = _
              rw [er]
            rw [eb]
            exact .inl rfl
        · intro C ed
          cases er : rebound (row.map fun b => b.go t) (wsGo ws t) gs with
          | some r => rw [er] at ed; cases ed
          | none =>
            rw [er] at ed
            cases ed
            have eb : behindC row ws = .toge := by
              unfold behindC
              rw [en]
              show (match rebound (row.map fun b => b.go t) (wsGo ws t) gs with | none => Beh.toge | some r => .at_ t r (wsGo ws t)) = _
              rw [er]
            rw [eb]
            exact .inl rfl
    · intro C ed
      cases en : nextC row ws with
      | none => rw [en] at ed; cases ed
      | at_ t gs => rw [en] at ed; cases ed
      | shut =>
        rw [en] at ed
        cases ed
        have eb : behindC row ws = .shut := by unfold behindC; rw [en]
        rw [eb]
        exact .inl rfl
end
end K57
/-! D4: the law's own helpers, as plain functions -/
namespace K57
open PySem PySem.Spec PyProof.Rows L2 PD M
def R_lowest : List PyData → Out → Prop := fun ds o => ∃ a b : Int, ds = [.int a, .int b] ∧ b ≠ 0 ∧ b.natAbs < 2 ^ 8999 ∧ o = .rt (encR (Rat.divInt a b))
/-- the sighting of a meeting of two weights -/
def meeting (i j m n : Nat) (v w : Rat) : Sg := ⟨i, j, v, w, v - (v - w) * Rat.divInt (2 * (n : Int)) ((m : Int) + (n : Int)), w + (v - w) * Rat.divInt (2 * (m : Int)) ((m : Int) + (n : Int))⟩
def R_meeting : List PyData → Out → Prop := fun ds o => ∃ (i j m n : Nat) (v w : Rat), ds = [.int (i : Int), .int (j : Int), .int (m : Int), .int (n : Int), encR v, encR w] ∧ Sm 2000 v ∧ Sm 2000 w ∧ 0 < m ∧ m < 2 ^ 11 ∧ 0 < n ∧ n < 2 ^ 11 ∧ o = .rt (encS (meeting i j m n v w))
/-- one sighting joins two parts -/
def relax (ps : List Nat) (s : Sg) : List Nat := match ps[s.i]?, ps[s.j]? with
  | some a, some b => (ps.set s.i (min a b)).set s.j (min a b)
  | _, _ => ps
def sweepUp (ss : List Sg) (ps : List Nat) : Nat → List Nat
  | 0 => ps
  | k + 1 => match ss[k]? with
    | some s => relax (sweepUp ss ps k) s
    | none => sweepUp ss ps k
def sweeps (n : Nat) (ss : List Sg) : Nat → List Nat
  | 0 => List.range n
  | k + 1 => sweepUp ss (sweeps n ss k) ss.length
def partsOf (n : Nat) (ss : List Sg) : List Nat := sweeps n ss n
def encN (n : Nat) : PyData := .int (n : Int)
def R_parts : List PyData → Out → Prop := fun ds o => ∃ (n : Nat) (ss : List Sg), ds = [.int (n : Int), .list (ss.map encS)] ∧ n ≤ 10 ∧ ss.length ≤ 100 ∧ (∀ s ∈ ss, s.i < n ∧ s.j < n) ∧ o = .rt (.list ((partsOf n ss).map encN))
def commonUp (l : List Nat) : Nat → Nat
  | 0 => 0
  | k + 1 => match l[k]? with
    | some x => Nat.gcd (commonUp l k) x
    | none => commonUp l k
def common (l : List Nat) : Nat := commonUp l l.length
def R_common : List PyData → Out → Prop := fun ds o => ∃ (l : List Nat), ds = [.list (l.map encN)] ∧ l.length ≤ 100 ∧ o = .rt (encN (common l))
/-- the weights of the balls of one part -/
def mates (ws ps : List Nat) (b : Nat) : Nat → List Nat
  | 0 => []
  | k + 1 => if ps[k]? = ps[b]? then mates ws ps b k ++ (match ws[k]? with | some x => [x] | none => []) else mates ws ps b k
def leastW (ws ps : List Nat) (b : Nat) : Nat := match ws[b]? with
  | some x => x / common (mates ws ps b ws.length)
  | none => 0
def leastF (ws ps : List Nat) : List Nat := (List.range ws.length).map (leastW ws ps)
def R_least : List PyData → Out → Prop := fun ds o => ∃ (ws ps : List Nat), ds = [.tuple (ws.map encN), .list (ps.map encN)] ∧ ws.length ≤ 10 ∧ ps.length = ws.length ∧ (∀ x ∈ ws, 0 < x ∧ x < 2 ^ 11) ∧ o = .rt (.tuple ((leastF ws ps).map encN))
/-- the meetings of two balls among the groups -/
def seenAt (row r : List Ball) (g : Grp) : List Sg := if g.wh = "" ∧ g.last = g.first + 1 then (match row[g.first]?, row[g.last]?, r[g.first]?, r[g.last]? with
  | some a, some b, some c, some d => [⟨g.first, g.last, a.s, b.s, c.s, d.s⟩]
  | _, _, _, _ => []) else []
def seenUp (row r : List Ball) (gs : List Grp) : Nat → List Sg
  | 0 => []
  | k + 1 => seenUp row r gs k ++ match gs[k]? with
    | some g => seenAt row r g
    | none => []
/-- what is seen of a coming that does come -/
structure Seen (row : List Ball) (ws : Ws) (some_ : List Sg) (r : List Ball) (ws2 : Ws) : Prop where
  ex : ∃ t gs, nextC row ws = .at_ t gs ∧ behindC row ws = .at_ t r ws2 ∧ r.length = row.length ∧ (∀ g ∈ gs, g.first ≤ g.last ∧ g.last < row.length) ∧ gs.length ≤ 10 ∧ some_ = seenUp row r gs gs.length
def R_seen : List PyData → Out → Prop := fun ds o => ∃ (row : List Ball) (ws : Ws) (l : List Sg) (r : List Ball) (ws2 : Ws), ds = [.tuple (row.map encB), encWs ws] ∧ RowOk row ws ∧ Seen row ws l r ws2 ∧ o = .rt (.tuple [.list (l.map encS), .tuple (r.map encB), encWs ws2])
end K57
/-! F9: the law's own helpers -/
namespace K57
open PySem PySem.Spec PyProof.Rows L2 PD M
theorem el_range {K : PySem.W.Frag} {M : Addr → Prop} {ρ : List Sl} {te : TE} {n : Nat} (h : Ev K M te ρ (.int (n : Int))) (hn : n ≤ 1000) : EL K M (tLstRg (tRg1 te)) ρ ((List.range n).map encN) := fun F H σ s o Q q =>
  h F H σ s o _ fun d v F1 H1 e s1 r1 => by
    subst e
    refine ⟨n, r1.int_, RgOk.of_le (by decide) (by omega) (by decide) (by omega), fun p np => ?_⟩
    refine q _ p _ F1 _ rfl (s1.trans o.mp (.newU s1.fh np)) (s1.fh.free np) (freeBack s1 o.mp np) upd_same ?_
    have e : rgV 0 (n : Int) = (List.range n).map fun i : Nat => V.int ((i : Nat) : Int) := by
      unfold rgV
      rw [Int.sub_zero, Int.toNat_natCast]
      exact List.map_congr_left fun i _ => by rw [Int.zero_add]
    rw [e]
    have : ∀ l : List Nat, RpA K F1 (l.map fun i : Nat => V.int ((i : Nat) : Int)) (l.map encN) := by
      intro l
      induction l with
      | nil => exact .nil
      | cons x l ih => exact .cons (.int _) ih
    exact this _
theorem gcd_cast (a b : Nat) : Int.gcd (a : Int) (b : Int) = Nat.gcd a b := rfl
theorem fmod_cast (a b : Nat) : (a : Int).fmod (b : Int) = ((a % b : Nat) : Int) := (Int.ofNat_fmod a b).symm
section
variable {P : Program} {w : World} {K : PySem.W.Frag} {mg : Str → Option Value} {base : Heap}
/-- while other > 0: one, other = (other, one % other) -/
theorem s_gcd {M : Addr → Prop} {W : XK} {ρ : List Sl} {i j : Nat} {a b : Nat} {Φ : Out → Prop} (hi : ρ[i]? = some (.d (encN a))) (hj : ρ[j]? = some (.d (encN b))) (hij : i ≠ j) (q : Φ (.nx ((ρ.set i (.d (encN (Nat.gcd a b)))).set j (.d (encN 0))))) :
    S K M W (tWhile (tTest (tOp (rI0 fun i j => .bl (decide (j < i))) (tVar j) (tC (.int 0)))) (tPar i j (tCons (tVar j) (tCons (tOp (rI (fun _ j => j ≠ 0) fun i j => .int (i.fmod j)) (tVar i) (tVar j)) tNil)))) ρ Φ := by
  have li : i < ρ.length := (List.getElem?_eq_some_iff.mp hi).1
  have lj : j < ρ.length := (List.getElem?_eq_some_iff.mp hj).1
  have self : ρ = (ρ.set i (.d (encN a))).set j (.d (encN b)) := by
    refine List.ext_getElem? fun k => ?_
    by_cases h1 : k = j
    · subst h1
      rw [List.getElem?_set_self (by rw [List.length_set]; exact lj), hj]
    · rw [List.getElem?_set_ne (fun z => h1 z.symm)]
      by_cases h2 : k = i
      · subst h2
        rw [List.getElem?_set_self li, hi]
      · rw [List.getElem?_set_ne (fun z => h2 z.symm)]
  refine s_while (fun m ρ' => ∃ x y : Nat, ρ' = (ρ.set i (.d (encN x))).set j (.d (encN y)) ∧ Nat.gcd x y = Nat.gcd a b ∧ m = y) (m0 := b) ⟨a, b, self, rfl, rfl⟩ ?_
  rintro m ρ' ⟨x, y, rfl, hg, rfl⟩
  have gi : ((ρ.set i (.d (encN x))).set j (.d (encN m)))[i]? = some (.d (encN x)) := by
    rw [List.getElem?_set_ne (fun z => hij z.symm), List.getElem?_set_self li]
  have gj : ((ρ.set i (.d (encN x))).set j (.d (encN m)))[j]? = some (.d (encN m)) := List.getElem?_set_self (by rw [List.length_set]; exact lj)
  refine ⟨_, te_test (ev_op (ev_var gj) ev_int od_gt), fun h => ?_, fun h => ?_⟩
  · have h : (0 : Int) < (m : Int) := of_decide_eq_true h
    refine s_par (ag_cons (ev_var gj) (ag_cons (ev_op (ev_var gi) (ev_var gj) (od_mod (by omega))) ag_nil)) ?_
    refine ⟨x % m, Nat.mod_lt _ (by omega), m, x % m, ?_, ?_, rfl⟩
    · rw [fmod_cast]
      refine List.ext_getElem? fun k => ?_
      by_cases h1 : k = j
      · subst h1
        rw [List.getElem?_set_self (by simp only [List.length_set]; exact lj), List.getElem?_set_self (by simp only [List.length_set]; exact lj)]
        <;> rfl
      · rw [List.getElem?_set_ne (fun z => h1 z.symm), List.getElem?_set_ne (fun z => h1 z.symm)]
        by_cases h2 : k = i
        · subst h2
          rw [List.getElem?_set_self (by simp only [List.length_set]; exact li), List.getElem?_set_self li]
          <;> rfl
        · rw [List.getElem?_set_ne (fun z => h2 z.symm), List.getElem?_set_ne (fun z => h2 z.symm), List.getElem?_set_ne (fun z => h1 z.symm), List.getElem?_set_ne (fun z => h2 z.symm)]
    · rw [← hg, Nat.gcd_comm x m, Nat.gcd_rec m x, Nat.gcd_comm]
  · have h : ¬ (0 : Int) < (m : Int) := of_decide_eq_false h
    have : m = 0 := by omega
    subst this
    rw [Nat.gcd_zero_right] at hg
    rw [hg]
    exact q
theorem sc__law_lowest : FnScope ["_law_top", "_law_bottom", "_law_one", "_law_other"] ["_law_top", "_law_bottom"] (defScope (top 55)) := ⟨rfl, rfl, rfl, by decide +kernel, rfl, by decide +kernel, by decide +kernel⟩
theorem ok__law_lowest {f aN aO : Addr} {fd : FuncData} (T : Txt K mg aN aO)    (F : FunD K "_law_lowest" "_law_lowest" (defArgs (top 55)) (defBody (top 55)) (defScope (top 55)) [] [] f fd) : FnOk P w K mg base CX0 1 f fd ["_law_top", "_law_bottom"] (spF K R_lowest) := by
  refine ok_def F sc__law_lowest (fun ds o h => ?_) (fun cdv A outer s H W hr => ⟨_, (pss_cons (ps_par (i := 2) (j := 3) rfl sc__law_lowest.nd rfl rfl (by decide) rfl rfl (pa_cons (pe_callB call_abs (by rfl) T.f_abs (by decide +kernel) (pa_cons (pv 0) pa_nil)) (pa_cons (pe_callB call_abs (by rfl) T.f_abs (by decide +kernel) (pa_cons (pv 1) pa_nil)) pa_nil)) (by rfl))
      (pss_cons (ps_while (passes_of rfl) (pt_cmpR op_gt (pv 3) pe_int (nomark _)) (pss_one (ps_par (i := 2) (j := 3) rfl sc__law_lowest.nd rfl rfl (by decide) rfl rfl (pa_cons (pv 3) (pa_cons (pe_op op_modN (pv 2) (pv 3)) pa_nil)) (by rfl))))
      (pss_cons (ps_if (pt_cmpR op_lt (pv 1) pe_int (nomark _)) (pss_one (ps_set (i := 2) sc__law_lowest.nd rfl (Or.inl rfl) (pe_un un_neg (pv 2)))) pss_nil)
      (pss_one (ps_ret (pe_tup (pa_cons (pe_op op_fdivZ (pv 0) (pv 2)) (pa_cons (pe_op op_fdivZ (pv 1) (pv 2)) pa_nil)))))))), fun ds o h => ?_⟩)
  · obtain ⟨a, b, rfl, _, _, rfl⟩ := h
    exact ⟨rfl, .inl ⟨_, rfl⟩⟩
  · obtain ⟨a, b, rfl, h0, hb, rfl⟩ := h
    have hby : (by_ a b).natAbs < 2 ^ 8999 := Nat.lt_of_le_of_lt (by_le h0) hb
    have hz : ∀ c, CDivZ c (by_ a b) := fun c => ⟨by_ne h0, Nat.lt_trans (log_lt hby (by decide)) (by decide)⟩
    have ea : ∀ c : Int, (if c < 0 then -c else c) = ((c.natAbs : Nat) : Int) := fun c => by split <;> omega
    refine s_seq (s_par (ag_cons (Ev.eq (d' := encN a.natAbs) (ev_cb (ag_cons (ev_var rfl) ag_nil) cb_abs) (by rw [ea]; rfl)) (ag_cons (Ev.eq (d' := encN b.natAbs) (ev_cb (ag_cons (ev_var rfl) ag_nil) cb_abs) (by rw [ea]; rfl)) ag_nil)) ?_)
    refine s_seq (s_gcd (i := 2) (j := 3) (a := a.natAbs) (b := b.natAbs) rfl rfl (by decide) ?_)
    have eg : Nat.gcd a.natAbs b.natAbs = Int.gcd a b := rfl
    rw [eg]
    refine s_seq ((s_if (te_test (ev_op (ev_var rfl) ev_int od_lt)) (fun e => s_set (ev_neg (ev_var (d := .int (Int.gcd a b : Nat)) rfl)) (?_ : thenS _ _ _)) fun e => s_next ?_))
    · have hb0 : b < 0 := of_decide_eq_true e
      have e1 : by_ a b = -(Int.gcd a b : Int) := by unfold by_; rw [if_pos hb0, Int.zero_sub]
      refine s_ret (ev_tup (ag_cons (ev_op (ev_var rfl) (ev_var rfl) (od_fdiv (by rw [← e1]; exact hz a))) (ag_cons (ev_op (ev_var rfl) (ev_var rfl) (od_fdiv (by rw [← e1]; exact hz b))) ag_nil))) (.inl ?_)
      rw [← e1, ratio_num a h0, ratio_den a h0]
      rfl
    · have hb0 : ¬ b < 0 := of_decide_eq_false e
      have e1 : by_ a b = (Int.gcd a b : Int) := if_neg hb0
      refine s_ret (ev_tup (ag_cons (ev_op (ev_var rfl) (ev_var (d := .int (Int.gcd a b : Nat)) rfl) (od_fdiv (by rw [← e1]; exact hz a))) (ag_cons (ev_op (ev_var rfl) (ev_var (d := .int (Int.gcd a b : Nat)) rfl) (od_fdiv (by rw [← e1]; exact hz b))) ag_nil))) (.inl ?_)
      rw [← e1, ratio_num a h0, ratio_den a h0]
      rfl
theorem ev_low {M : Addr → Prop} {ρ : List Sl} {ta tb : TE} {W : XK} {a b : Int} (ha : Ev K M ta ρ (.int a)) (hb : Ev K M tb ρ (.int b)) (h0 : b ≠ 0) (hl : b.natAbs < 2 ^ 8999) : Ev K M (tCall (spF K R_lowest) [] W (tCons ta (tCons tb tNil))) ρ (encR (Rat.divInt a b)) := ev_fn (ag_cons ha (ag_cons hb ag_nil)) ⟨a, b, rfl, h0, hl, rfl⟩
theorem sc__law_less : FnScope ["_law_one", "_law_other"] ["_law_one", "_law_other"] (defScope (top 59)) := ⟨rfl, rfl, rfl, by decide +kernel, rfl, by decide +kernel, by decide +kernel⟩
theorem ok__law_less {f aN aO : Addr} {fd : FuncData} (T : Txt K mg aN aO)    (F : FunD K "_law_less" "_law_less" (defArgs (top 59)) (defBody (top 59)) (defScope (top 59)) [] [] f fd) : FnOk P w K mg base CX0 1 f fd ["_law_one", "_law_other"] (spF K R_less) := by
  refine ok_def F sc__law_less (fun ds o h => ?_) (fun cdv A outer s H W hr => ⟨_, (pss_one (ps_ret (pe_cmpR op_lt (pe_op op_mulW (pe_ix ix_tup (pv 0) pe_int (fun _ _ => rfl)) (pe_ix ix_tup (pv 1) pe_int (fun _ _ => rfl))) (pe_op op_mulW (pe_ix ix_tup (pv 1) pe_int (fun _ _ => rfl)) (pe_ix ix_tup (pv 0) pe_int (fun _ _ => rfl))) (nomark _)))), fun ds o h => ?_⟩)
  · obtain ⟨x, y, rfl, _, _, rfl⟩ := h
    exact ⟨rfl, .inl ⟨_, rfl⟩⟩
  · obtain ⟨x, y, rfl, hx, hy, rfl⟩ := h
    refine s_ret ((ev_op (ev_mul (ev_num (ev_var rfl)) (ev_den (ev_var rfl)) (hx.cnd hy)) (ev_mul (ev_num (ev_var rfl)) (ev_den (ev_var rfl)) (hy.cnd hx)) od_lt).eq (by rw [less_eq])) (.inl rfl)
theorem sc__law_sum : FnScope ["_law_one", "_law_other"] ["_law_one", "_law_other"] (defScope (top 60)) := ⟨rfl, rfl, rfl, by decide +kernel, rfl, by decide +kernel, by decide +kernel⟩
theorem ok__law_sum {f aN aO : Addr} {fd : FuncData} (T : Txt K mg aN aO)  (C__law_lowest : Cal P w K mg base CX0 1 "_law_lowest" ["_law_top", "_law_bottom"] [] (spF K R_lowest))  (F : FunD K "_law_sum" "_law_sum" (defArgs (top 60)) (defBody (top 60)) (defScope (top 60)) [] [] f fd) : FnOk P w K mg base CX0 2 f fd ["_law_one", "_law_other"] (spF K R_plus) := by
  refine ok_def F sc__law_sum (fun ds o h => ?_) (fun cdv A outer s H W hr => ⟨_, (pss_one (ps_ret (pe_cal C__law_lowest (hr.mono (by decide)) pass0 (pa_cons (pe_op op_add (pe_op op_mulW (pe_ix ix_tup (pv 0) pe_int (fun _ _ => rfl)) (pe_ix ix_tup (pv 1) pe_int (fun _ _ => rfl))) (pe_op op_mulW (pe_ix ix_tup (pv 1) pe_int (fun _ _ => rfl)) (pe_ix ix_tup (pv 0) pe_int (fun _ _ => rfl)))) (pa_cons (pe_op op_mulW (pe_ix ix_tup (pv 0) pe_int (fun _ _ => rfl)) (pe_ix ix_tup (pv 1) pe_int (fun _ _ => rfl))) pa_nil))))), fun ds o h => ?_⟩)
  · obtain ⟨x, y, rfl, _, _, rfl⟩ := h
    exact ⟨rfl, .inl ⟨_, rfl⟩⟩
  · obtain ⟨x, y, rfl, hx, hy, rfl⟩ := h
    refine s_ret ((ev_low (ev_add (ev_mul (ev_num (ev_var rfl)) (ev_den (ev_var rfl)) (hx.cnd hy)) (ev_mul (ev_num (ev_var rfl)) (ev_den (ev_var rfl)) (hy.cnd hx))) (ev_mul (ev_den (ev_var rfl)) (ev_den (ev_var rfl)) (hx.cdd hy)) (mul_ne (den_ne x) (den_ne y)) (hx.ldd hy)).eq (by rw [plus_eq])) (.inl rfl)
theorem sc__law_product : FnScope ["_law_one", "_law_other"] ["_law_one", "_law_other"] (defScope (top 61)) := ⟨rfl, rfl, rfl, by decide +kernel, rfl, by decide +kernel, by decide +kernel⟩
theorem ok__law_product {f aN aO : Addr} {fd : FuncData} (T : Txt K mg aN aO)  (C__law_lowest : Cal P w K mg base CX0 1 "_law_lowest" ["_law_top", "_law_bottom"] [] (spF K R_lowest))  (F : FunD K "_law_product" "_law_product" (defArgs (top 61)) (defBody (top 61)) (defScope (top 61)) [] [] f fd) : FnOk P w K mg base CX0 2 f fd ["_law_one", "_law_other"] (spF K R_times) := by
  refine ok_def F sc__law_product (fun ds o h => ?_) (fun cdv A outer s H W hr => ⟨_, (pss_one (ps_ret (pe_cal C__law_lowest (hr.mono (by decide)) pass0 (pa_cons (pe_op op_mulW (pe_ix ix_tup (pv 0) pe_int (fun _ _ => rfl)) (pe_ix ix_tup (pv 1) pe_int (fun _ _ => rfl))) (pa_cons (pe_op op_mulW (pe_ix ix_tup (pv 0) pe_int (fun _ _ => rfl)) (pe_ix ix_tup (pv 1) pe_int (fun _ _ => rfl))) pa_nil))))), fun ds o h => ?_⟩)
  · obtain ⟨x, y, rfl, _, _, rfl⟩ := h
    exact ⟨rfl, .inl ⟨_, rfl⟩⟩
  · obtain ⟨x, y, rfl, hx, hy, rfl⟩ := h
    refine s_ret ((ev_low (ev_mul (ev_num (ev_var rfl)) (ev_num (ev_var rfl)) (hx.cnn hy)) (ev_mul (ev_den (ev_var rfl)) (ev_den (ev_var rfl)) (hx.cdd hy)) (mul_ne (den_ne x) (den_ne y)) (hx.ldd hy)).eq (by rw [times_eq])) (.inl rfl)
theorem ev_m1 {M : Addr → Prop} {ρ : List Sl} : Ev K M (tTup (tCons (tUn (rU fun i => .int (-i)) (tC (.int 1))) (tCons (tC (.int 1)) tNil))) ρ (encR (-1)) := ev_tup (ag_cons (ev_neg ev_int) (ag_cons ev_int ag_nil))
theorem sm_m1 {n : Nat} (h : 0 < n) : Sm n (-1 : Rat) := ⟨Nat.one_lt_pow (by omega) (by decide), Nat.one_lt_pow (by omega) (by decide)⟩
theorem sm_neg {n : Nat} {x : Rat} (h : Sm n x) : Sm n (x * -1) := by
  have : x * -1 = -x := by grind
  rw [this]
  exact ⟨by rw [Rat.neg_num, Int.natAbs_neg]; exact h.1, h.2⟩
theorem sc__law_minus : FnScope ["_law_one", "_law_other"] ["_law_one", "_law_other"] (defScope (top 64)) := ⟨rfl, rfl, rfl, by decide +kernel, rfl, by decide +kernel, by decide +kernel⟩
theorem ok__law_minus {f aN aO : Addr} {fd : FuncData} (T : Txt K mg aN aO)  (C__law_sum : Cal P w K mg base CX0 2 "_law_sum" ["_law_one", "_law_other"] [] (spF K R_plus)) (C__law_product : Cal P w K mg base CX0 2 "_law_product" ["_law_one", "_law_other"] [] (spF K R_times))  (F : FunD K "_law_minus" "_law_minus" (defArgs (top 64)) (defBody (top 64)) (defScope (top 64)) [] [] f fd) : FnOk P w K mg base CX0 3 f fd ["_law_one", "_law_other"] (spF K R_minus) := by
  refine ok_def F sc__law_minus (fun ds o h => ?_) (fun cdv A outer s H W hr => ⟨_, (pss_one (ps_ret (pe_cal C__law_sum (hr.mono (by decide)) pass0 (pa_cons (pv 0) (pa_cons (pe_cal C__law_product (hr.mono (by decide)) pass0 (pa_cons (pv 1) (pa_cons (pe_tup (pa_cons (pe_un un_neg pe_int) (pa_cons pe_int pa_nil))) pa_nil))) pa_nil))))), fun ds o h => ?_⟩)
  · obtain ⟨x, y, rfl, _, _, rfl⟩ := h
    exact ⟨rfl, .inl ⟨_, rfl⟩⟩
  · obtain ⟨x, y, rfl, hx, hy, rfl⟩ := h
    refine s_ret ((ev_plus (ev_var rfl) (ev_times (ev_var rfl) ev_m1 hy (sm_m1 (by decide))) hx (sm_neg hy)).eq ?_) (.inl rfl)
    congr 1
    grind
theorem frac_sm {a b : Nat} (hb : 0 < b) (ha : a < 2 ^ 11) (hb2 : b < 2 ^ 11) : Sm 13 (Rat.divInt (2 * (a : Int)) ((a : Int) + (b : Int))) := divInt_small (by omega) (by omega) (by omega)
theorem frac_sm' {a b : Nat} (hb : 0 < b) (ha : a < 2 ^ 11) (hb2 : b < 2 ^ 11) : Sm 13 (Rat.divInt (2 * (a : Int)) ((b : Int) + (a : Int))) := divInt_small (by omega) (by omega) (by omega)
theorem sc__law_meeting : FnScope ["_law_i", "_law_j", "_law_one", "_law_other", "_law_v", "_law_w", "_law_gap", "_law_v2", "_law_w2"] ["_law_i", "_law_j", "_law_one", "_law_other", "_law_v", "_law_w"] (defScope (top 65)) := ⟨rfl, rfl, rfl, by decide +kernel, rfl, by decide +kernel, by decide +kernel⟩
theorem ok__law_meeting {f aN aO : Addr} {fd : FuncData} (T : Txt K mg aN aO)  (C__law_minus : Cal P w K mg base CX0 3 "_law_minus" ["_law_one", "_law_other"] [] (spF K R_minus)) (C__law_sum : Cal P w K mg base CX0 2 "_law_sum" ["_law_one", "_law_other"] [] (spF K R_plus)) (C__law_product : Cal P w K mg base CX0 2 "_law_product" ["_law_one", "_law_other"] [] (spF K R_times)) (C__law_lowest : Cal P w K mg base CX0 1 "_law_lowest" ["_law_top", "_law_bottom"] [] (spF K R_lowest))  (F : FunD K "_law_meeting" "_law_meeting" (defArgs (top 65)) (defBody (top 65)) (defScope (top 65)) [] [] f fd) : FnOk P w K mg base CX0 4 f fd ["_law_i", "_law_j", "_law_one", "_law_other", "_law_v", "_law_w"] (spF K R_meeting) := by
  refine ok_def F sc__law_meeting (fun ds o h => ?_) (fun cdv A outer s H W hr => ⟨_, (pss_cons (ps_set (i := 6) sc__law_meeting.nd rfl (Or.inl rfl) (pe_cal C__law_minus (hr.mono (by decide)) pass0 (pa_cons (pv 4) (pa_cons (pv 5) pa_nil))))
      (pss_cons (ps_set (i := 7) sc__law_meeting.nd rfl (Or.inl rfl) (pe_cal C__law_minus (hr.mono (by decide)) pass0 (pa_cons (pv 4) (pa_cons (pe_cal C__law_product (hr.mono (by decide)) pass0 (pa_cons (pv 6) (pa_cons (pe_cal C__law_lowest (hr.mono (by decide)) pass0 (pa_cons (pe_op op_mulW pe_int (pv 3)) (pa_cons (pe_op op_add (pv 2) (pv 3)) pa_nil))) pa_nil))) pa_nil))))
      (pss_cons (ps_set (i := 8) sc__law_meeting.nd rfl (Or.inl rfl) (pe_cal C__law_sum (hr.mono (by decide)) pass0 (pa_cons (pv 5) (pa_cons (pe_cal C__law_product (hr.mono (by decide)) pass0 (pa_cons (pv 6) (pa_cons (pe_cal C__law_lowest (hr.mono (by decide)) pass0 (pa_cons (pe_op op_mulW pe_int (pv 2)) (pa_cons (pe_op op_add (pv 2) (pv 3)) pa_nil))) pa_nil))) pa_nil))))
      (pss_one (ps_ret (pe_tup (pa_cons (pv 0) (pa_cons (pv 1) (pa_cons (pv 4) (pa_cons (pv 5) (pa_cons (pv 7) (pa_cons (pv 8) pa_nil)))))))))))), fun ds o h => ?_⟩)
  · obtain ⟨i, j, m, n, v, w, rfl, _, _, _, _, _, _, rfl⟩ := h
    exact ⟨rfl, .inl ⟨_, rfl⟩⟩
  · obtain ⟨i, j, m, n, v, w, rfl, sv, sw, m0, m1, n0, n1, rfl⟩ := h
    have ov : Ok v := sv.mono (by decide)
    have ow : Ok w := sw.mono (by decide)
    have sg : Sm 4001 (v - w) := sv.sub sw
    have f1 := frac_sm' (a := n) (b := m) m0 n1 m1
    have f2 := frac_sm (a := m) (b := n) n0 m1 n1
    have two : ∀ {k : Nat}, k < 2 ^ 11 → CMulW 2 (k : Int) := fun {k} h => cmul (m := 2) (n := 11) (by decide) (by omega)
    have bl : ((m : Int) + (n : Int)).natAbs < 2 ^ 8999 := lt_8999 (m := 12) (by omega) (by decide)
    refine s_seq (s_set (ev_minus (ev_var rfl) (ev_var rfl) ov ow) ?_)
    refine s_seq (s_set (ev_minus (ev_var rfl) (ev_times (ev_var rfl) (ev_low (ev_mul ev_int (ev_var rfl) (two n1)) (ev_add (ev_var rfl) (ev_var rfl)) (by omega) bl) (sg.mono (by decide)) (f1.mono (by decide))) ov ((sg.mul f1).mono (by decide))) ?_)
    refine s_seq (s_set (ev_plus (ev_var rfl) (ev_times (ev_var rfl) (ev_low (ev_mul ev_int (ev_var rfl) (two m1)) (ev_add (ev_var rfl) (ev_var rfl)) (by omega) bl) (sg.mono (by decide)) (f2.mono (by decide))) ow ((sg.mul f2).mono (by decide))) ?_)
    exact s_ret (ev_tup (ag_cons (ev_var rfl) (ag_cons (ev_var rfl) (ag_cons (ev_var rfl) (ag_cons (ev_var rfl) (ag_cons (ev_var rfl) (ag_cons (ev_var rfl) ag_nil))))))) (.inl rfl)
end
end K57
/-! F10: parts, least weights, what is seen -/
namespace K57
open PySem PySem.Spec PyProof.Rows L2 PD M
theorem relax_len (ps : List Nat) (s : Sg) : (relax ps s).length = ps.length := by
  unfold relax
  split <;> simp
theorem sweepUp_len (ss : List Sg) (ps : List Nat) : ∀ k, (sweepUp ss ps k).length = ps.length
  | 0 => rfl
  | k + 1 => by
    unfold sweepUp
    split
    · rw [relax_len, sweepUp_len ss ps k]
    · exact sweepUp_len ss ps k
theorem sweeps_len (n : Nat) (ss : List Sg) : ∀ k, (sweeps n ss k).length = n
  | 0 => List.length_range
  | k + 1 => by
    show (sweepUp ss (sweeps n ss k) ss.length).length = n
    rw [sweepUp_len, sweeps_len n ss k]
theorem map_get {α : Type} {l : List α} {f : α → PyData} {k : Nat} {x : PyData} (h : (l.map f)[k]? = some x) : ∃ a, l[k]? = some a ∧ x = f a := by
  rw [List.getElem?_map] at h
  cases e : l[k]? with
  | none => rw [e] at h; cases h
  | some a => rw [e] at h; cases h; exact ⟨a, rfl, rfl⟩
theorem get_map {α : Type} {l : List α} {f : α → PyData} {k : Nat} {a : α} (h : l[k]? = some a) : (l.map f)[k]? = some (f a) := by
  rw [List.getElem?_map, h]
  rfl
section
variable {P : Program} {w : World} {K : PySem.W.Frag} {mg : Str → Option Value} {base : Heap}
theorem sc__law_parts : FnScope ["_law_n", "_law_sightings", "_law_parts_here", "_law_turn", "_law_sighting_here", "_law_least_here"] ["_law_n", "_law_sightings"] (defScope (top 70)) := ⟨rfl, rfl, rfl, by decide +kernel, rfl, by decide +kernel, by decide +kernel⟩
theorem ok__law_parts {f aN aO : Addr} {fd : FuncData} (T : Txt K mg aN aO)    (F : FunD K "_law_parts" "_law_parts" (defArgs (top 70)) (defBody (top 70)) (defScope (top 70)) [] [] f fd) : FnOk P w K mg base CX0 1 f fd ["_law_n", "_law_sightings"] (spF K R_parts) := by
  refine ok_def F sc__law_parts (fun ds o h => ?_) (fun cdv A outer s H W hr => ⟨_, (pss_cons (ps_set (i := 2) sc__law_parts.nd rfl (Or.inl rfl) (pe_listRg rfl (by rfl) T.f_list (prg_1 (by rfl) T.f_range (pv 0))))
      (pss_cons (ps_for (passes_of rfl) rfl (pi_range1 (by rfl) T.f_range (pa_cons (pv 0) pa_nil)) (pg_name (i := 3) sc__law_parts.nd rfl (Or.inl rfl)) (pss_one (ps_for (passes_of rfl) rfl (pi_list (pv 1)) (pg_name (i := 4) sc__law_parts.nd rfl (Or.inl rfl)) (pss_cons (ps_set (i := 5) sc__law_parts.nd rfl (Or.inl rfl) (pe_callB (call_min2 rfl) (by rfl) T.f_min (by decide +kernel) (pa_cons (pe_ix ix_list (pv 2) (pe_ix ix_tup (pv 4) pe_int (fun _ _ => rfl)) (fun _ _ => rfl)) (pa_cons (pe_ix ix_list (pv 2) (pe_ix ix_tup (pv 4) pe_int (fun _ _ => rfl)) (fun _ _ => rfl)) pa_nil))))
      (pss_cons (ps_asg (pv 5) (pg_sub (pv 2) (pe_ix ix_tup (pv 4) pe_int (fun _ _ => rfl)) set_list))
      (pss_one (ps_asg (pv 5) (pg_sub (pv 2) (pe_ix ix_tup (pv 4) pe_int (fun _ _ => rfl)) set_list))))))))
      (pss_one (ps_ret (pv 2))))), fun ds o h => ?_⟩)
  · obtain ⟨n, ss, rfl, _, _, _, rfl⟩ := h
    exact ⟨rfl, .inl ⟨_, rfl⟩⟩
  · obtain ⟨n, ss, rfl, hn, hl, hs, rfl⟩ := h
    refine s_seq (s_setL (el_range (ev_var rfl) (by omega)) ?_)
    refine s_seq (s_forR (n := n) (J := fun k ρ' => ∃ a b c : Sl, ρ' = [.d (encN n), .d (.list (ss.map encS)), .l ((sweeps n ss k).map encN), a, b, c]) (ag_cons (ev_var rfl) ag_nil) (by omega) ⟨_, _, _, rfl⟩ ?_ ?_)
    · rintro k ρ' hk ⟨a, b, c, rfl⟩
      refine ⟨_, tg_name, ?_⟩
      refine s_forL (xs := ss.map encS) (fun m ρ' => ∃ b c : Sl, ρ' = [.d (encN n), .d (.list (ss.map encS)), .l ((sweepUp ss (sweeps n ss k) m).map encN), .d (.int (k : Int)), b, c]) (ev_var rfl) ⟨_, _, rfl⟩ ?_ ?_
      · rintro m x ρ' hx ⟨b, c, rfl⟩
        obtain ⟨s, es, rfl⟩ := map_get hx
        obtain ⟨si, sj⟩ := hs s (List.mem_of_getElem? es)
        have hlen : (sweepUp ss (sweeps n ss k) m).length = n := by rw [sweepUp_len, sweeps_len]
        have e1 : (sweepUp ss (sweeps n ss k) m)[s.i]? = some ((sweepUp ss (sweeps n ss k) m)[s.i]'(by omega)) := List.getElem?_eq_getElem (by omega)
        have e2 : (sweepUp ss (sweeps n ss k) m)[s.j]? = some ((sweepUp ss (sweeps n ss k) m)[s.j]'(by omega)) := List.getElem?_eq_getElem (by omega)
        generalize (sweepUp ss (sweeps n ss k) m)[s.i]'(by omega) = p at e1
        generalize (sweepUp ss (sweeps n ss k) m)[s.j]'(by omega) = q at e2
        refine ⟨_, tg_name, ?_⟩
        have em : (PyData.int (if (q : Int) < (p : Int) then (q : Int) else (p : Int))) = encN (min p q) := by
          unfold encN
          congr 1
          split <;> omega
        refine s_seq (s_set (Ev.eq (ev_cb (ag_cons (ev_ixO rfl (ev_op (ev_var (d := encS s) rfl) ev_int (od_ixT rfl)) (atI_nat (get_map e1))) (ag_cons (ev_ixO rfl (ev_op (ev_var (d := encS s) rfl) ev_int (od_ixT rfl)) (atI_nat (get_map e2))) ag_nil)) cb_min2) em) ?_)
        refine s_seq (s_put (k := s.i) rfl (ev_var rfl) (ev_op (ev_var (d := encS s) rfl) ev_int (od_ixT rfl)) (by rw [List.length_map]; omega) ?_)
        refine s_put (k := s.j) rfl (ev_var rfl) (ev_op (ev_var (d := encS s) rfl) ev_int (od_ixT rfl)) (by rw [List.length_set, List.length_map]; omega) ?_
        have er : sweepUp ss (sweeps n ss k) (m + 1) = ((sweepUp ss (sweeps n ss k) m).set s.i (min p q)).set s.j (min p q) := by
          show (match ss[m]? with | some s => relax (sweepUp ss (sweeps n ss k) m) s | none => _) = _
          rw [es]
          show relax _ s = _
          unfold relax
          rw [e1, e2]
        refine ⟨.d (encS s), .d (encN (min p q)), ?_⟩
        rw [er, List.map_set, List.map_set]
        rfl
      · rintro ρ' ⟨b, c, rfl⟩
        refine ⟨.d (.int (k : Int)), b, c, ?_⟩
        rw [List.length_map]
        rfl
    · rintro ρ' ⟨a, b, c, rfl⟩
      exact s_freeze (i := 2) rfl (s_ret (ev_var rfl) (.inl rfl))
theorem sc__law_common : FnScope ["_law_some", "_law_one", "_law_other"] ["_law_some"] (defScope (top 71)) := ⟨rfl, rfl, rfl, by decide +kernel, rfl, by decide +kernel, by decide +kernel⟩
theorem ok__law_common {f aN aO : Addr} {fd : FuncData} (T : Txt K mg aN aO)    (F : FunD K "_law_common" "_law_common" (defArgs (top 71)) (defBody (top 71)) (defScope (top 71)) [] [] f fd) : FnOk P w K mg base CX0 1 f fd ["_law_some"] (spF K R_common) := by
  refine ok_def F sc__law_common (fun ds o h => ?_) (fun cdv A outer s H W hr => ⟨_, (pss_cons (ps_set (i := 1) sc__law_common.nd rfl (Or.inl rfl) pe_int)
      (pss_cons (ps_for (passes_of rfl) rfl (pi_list (pv 0)) (pg_name (i := 2) sc__law_common.nd rfl (Or.inl rfl)) (pss_one (ps_while (passes_of rfl) (pt_cmpR op_gt (pv 2) pe_int (nomark _)) (pss_one (ps_par (i := 1) (j := 2) rfl sc__law_common.nd rfl rfl (by decide) rfl rfl (pa_cons (pv 2) (pa_cons (pe_op op_modN (pv 1) (pv 2)) pa_nil)) (by rfl))))))
      (pss_one (ps_ret (pv 1))))), fun ds o h => ?_⟩)
  · obtain ⟨l, rfl, _, rfl⟩ := h
    exact ⟨rfl, .inl ⟨_, rfl⟩⟩
  · obtain ⟨l, rfl, hl, rfl⟩ := h
    refine s_seq (s_set ev_int ?_)
    refine s_seq (s_forL (xs := l.map encN) (fun k ρ' => ∃ c : Sl, ρ' = [.d (.list (l.map encN)), .d (encN (commonUp l k)), c]) (ev_var rfl) ⟨_, rfl⟩ ?_ ?_)
    · rintro k x ρ' hx ⟨c, rfl⟩
      obtain ⟨a, ea, rfl⟩ := map_get hx
      refine ⟨_, tg_name, ?_⟩
      refine s_gcd (i := 1) (j := 2) (a := commonUp l k) (b := a) rfl rfl (by decide) ⟨.d (encN 0), ?_⟩
      have : commonUp l (k + 1) = Nat.gcd (commonUp l k) a := by
        show (match l[k]? with | some x => Nat.gcd (commonUp l k) x | none => _) = _
        rw [ea]
      rw [this]
      rfl
    · rintro ρ' ⟨c, rfl⟩
      refine s_ret (ev_var rfl) (.inl ?_)
      rw [List.length_map]
      rfl
theorem mates_made (ws ps : List Nat) (b : Nat) (hb : b < ws.length) (hp : ps.length = ws.length) : ∀ k, k ≤ ws.length → made [] (fun k => decide (ps[k]? = ps[b]?)) (fun k => match ws[k]? with | some x => encN x | none => .none) k = (mates ws ps b k).map encN
  | 0, _ => rfl
  | k + 1, hk => by
    have ih := mates_made ws ps b hb hp k (by omega)
    unfold made mates
    rw [ih]
    have e : ws[k]? = some (ws[k]'(by omega)) := List.getElem?_eq_getElem (by omega)
    by_cases c : ps[k]? = ps[b]?
    · rw [if_pos c, if_pos (decide_eq_true c), List.map_append, e]
      rfl
    · rw [if_neg c, if_neg (by simpa using c)]
theorem mates_len (ws ps : List Nat) (b : Nat) : ∀ k, (mates ws ps b k).length ≤ k
  | 0 => Nat.le_refl _
  | k + 1 => by
    have ih := mates_len ws ps b k
    unfold mates
    split
    · rw [List.length_append]
      split
      · rw [List.length_singleton]; omega
      · rw [List.length_nil]; omega
    · omega
theorem mem_mates {ws ps : List Nat} {b k : Nat} {x : Nat} (hk : ws[k]? = some x) (hp : ps[k]? = ps[b]?) : ∀ {m : Nat}, k < m → x ∈ mates ws ps b m
  | m + 1, h => by
    unfold mates
    by_cases e : k = m
    · subst e
      rw [if_pos hp, hk]
      exact List.mem_append_right _ List.mem_cons_self
    · have ih := mem_mates (b := b) hk hp (show k < m by omega)
      split
      · exact List.mem_append_left _ ih
      · exact ih
theorem commonUp_dvd {l : List Nat} : ∀ {k : Nat} {j : Nat} {x : Nat}, j < k → l[j]? = some x → commonUp l k ∣ x
  | k + 1, j, x, h, e => by
    unfold commonUp
    by_cases hj : j = k
    · subst hj
      rw [e]
      exact Nat.gcd_dvd_right ..
    · have ih := commonUp_dvd (show j < k by omega) e
      split
      · exact Nat.dvd_trans (Nat.gcd_dvd_left ..) ih
      · exact ih
theorem common_dvd {l : List Nat} {x : Nat} (h : x ∈ l) : common l ∣ x := by
  obtain ⟨j, e⟩ := List.getElem?_of_mem h
  exact commonUp_dvd (List.getElem?_eq_some_iff.mp e).1 e
theorem common_pos {l : List Nat} {x : Nat} (h : x ∈ l) (h0 : 0 < x) : 0 < common l := Nat.pos_of_dvd_of_pos (common_dvd h) h0
theorem sc__law_least : FnScope ["_law_weights_here", "_law_parts_here", "_law_found", "_law_ball", "_law_by", "_law_other"] ["_law_weights_here", "_law_parts_here"] (defScope (top 72)) := ⟨rfl, rfl, rfl, by decide +kernel, rfl, by decide +kernel, by decide +kernel⟩
theorem ok__law_least {f aN aO : Addr} {fd : FuncData} (T : Txt K mg aN aO)  (C__law_common : Cal P w K mg base CX0 1 "_law_common" ["_law_some"] [] (spF K R_common))  (F : FunD K "_law_least" "_law_least" (defArgs (top 72)) (defBody (top 72)) (defScope (top 72)) [] [] f fd) : FnOk P w K mg base CX0 2 f fd ["_law_weights_here", "_law_parts_here"] (spF K R_least) := by
  refine ok_def F sc__law_least (fun ds o h => ?_) (fun cdv A outer s H W hr => ⟨_, (pss_cons (ps_set (i := 2) sc__law_least.nd rfl (Or.inl rfl) (pe_lst pa_nil))
      (pss_cons (ps_for (passes_of rfl) rfl (pi_range1 (by rfl) T.f_range (pa_cons (pe_callB call_len_seq (by rfl) T.f_len (by decide +kernel) (pa_cons (pv 0) pa_nil)) pa_nil)) (pg_name (i := 3) sc__law_least.nd rfl (Or.inr rfl)) (pss_cons (ps_set (i := 4) sc__law_least.nd rfl (Or.inl rfl) (pe_cal C__law_common (hr.mono (by decide)) pass0 (pa_cons (pe_lc (own := [("_law_other", 5)]) rfl sc__law_least.nd (pi_range1 (by rfl) T.f_range (pa_cons (pe_callB call_len_seq (by rfl) T.f_len (by decide +kernel) (pa_cons (pv 0) pa_nil)) pa_nil)) (blkOk_by (N := ["_law_weights_here", "_law_parts_here", "_law_found", "_law_ball", "_law_by", "_law_other"]) (sc := defScope (top 72)) (by decide +kernel)) (fun _ _ _ _ _ => (pg_name (i := 5) sc__law_least.nd rfl (Or.inl rfl))) (fun _ _ _ _ _ => (pts_one (pt_cmpR op_eq (pe_ix (ix_listK (K := K) rfl) (pv 1) (pv 5) (fun _ _ => rfl)) (pe_ix (ix_listK (K := K) rfl) (pv 1) (pv 3) (fun _ _ => rfl)) (nomark _)))) (fun _ _ _ _ _ => (pe_ix (ix_tupK (K := K) rfl) (pv 0) (pv 5) (fun _ _ => rfl)))) pa_nil)))
      (pss_one (ps_expr (pe_bm PySem.F.plainAttrs_list PySem.F.slot_list_append PySem.F.type_list_append mt_append (pv 2) (pa_cons (pe_op op_fdivZ (pe_ix ix_tup (pv 0) (pv 3) (fun _ _ => rfl)) (pv 4)) pa_nil))))))
      (pss_one (ps_ret (pe_callTy call_tuple_of (by rfl) T.f_tuple (by decide +kernel) (pa_cons (pv 2) pa_nil)))))), fun ds o h => ?_⟩)
  · obtain ⟨ws, ps, rfl, _, _, _, rfl⟩ := h
    exact ⟨rfl, .inl ⟨_, rfl⟩⟩
  · obtain ⟨ws, ps, rfl, hl, hp, hw, rfl⟩ := h
    refine s_seq (s_setL (el_lst ag_nil) ?_)
    refine s_seq (s_forR (n := ws.length) (J := fun k ρ' => ∃ a b c : Sl, ρ' = [.d (.tuple (ws.map encN)), .d (.list (ps.map encN)), .l (((List.range k).map (leastW ws ps)).map encN), a, b, c]) (ag_cons (Ev.eq (ev_cb (ag_cons (ev_var rfl) ag_nil) cb_lenT) (by rw [List.length_map])) ag_nil) (by omega) ⟨_, _, _, rfl⟩ ?_ ?_)
    · rintro k ρ' hk ⟨a, b, c, rfl⟩
      refine ⟨_, tg_name, ?_⟩
      have ew : ws[k]? = some ws[k] := List.getElem?_eq_getElem hk
      have ep : ps[k]? = some (ps[k]'(by omega)) := List.getElem?_eq_getElem (by omega)
      have eI : ∀ {a c : Nat}, decide ((a : Int) = (c : Int)) = decide (a = c) := fun {a c} => by
        rw [decide_eq_decide]; omega
      have hin : ws[k] ∈ mates ws ps k ws.length := mem_mates ew rfl hk
      have h0 : 0 < common (mates ws ps k ws.length) := common_pos hin (hw _ (List.getElem_mem hk)).1
      refine s_seq (s_set (d := encN (common (mates ws ps k ws.length))) (ev_fn (ag_cons (d := .list ((mates ws ps k ws.length).map encN)) (EL.ev ?_) ag_nil) ⟨_, rfl, by have := mates_len ws ps k ws.length; omega, rfl⟩) ?_)
      · rw [← mates_made ws ps k hk hp ws.length (Nat.le_refl _)]
        refine el_lcR (fun j => decide (ps[j]? = ps[k]?)) (fun k => match ws[k]? with | some x => encN x | none => .none) (ag_cons (Ev.eq (ev_cb (ag_cons (ev_var rfl) ag_nil) cb_lenT) (by rw [List.length_map])) ag_nil) (by omega) fun j hj => ?_
        have ewj : ws[j]? = some ws[j] := List.getElem?_eq_getElem hj
        have epj : ps[j]? = some (ps[j]'(by omega)) := List.getElem?_eq_getElem (by omega)
        refine ⟨_, te_name (by decide), (te_test (ev_op (ev_ixLn (ev_var rfl) (ev_var rfl) (get_map epj)) (ev_ixLn (ev_var rfl) (ev_var rfl) (get_map ep)) (od_eqI (a := ((ps[j]'(by omega) : Nat) : Int)) (b := ((ps[k]'(by omega) : Nat) : Int))))).eq ?_, fun _ => ?_⟩
        · rw [eI, epj, ep]
          simp
        · simp only [ewj]
          exact ev_ixTn (ev_var rfl) (ev_var rfl) (get_map ewj)
      · refine s_append rfl (ev_op (ev_ixTn (ev_var rfl) (ev_var rfl) (get_map ew)) (ev_var rfl) (od_fdiv ⟨by omega, ?_⟩)) (by simp; omega) ⟨.d (encN k), .d (encN (common (mates ws ps k ws.length))), c, ?_⟩
        · have : common (mates ws ps k ws.length) ≤ ws[k] := Nat.le_of_dvd (hw _ (List.getElem_mem hk)).1 (common_dvd hin)
          have := (hw _ (List.getElem_mem hk)).2
          exact Nat.lt_trans (log_lt (k := 11) (by omega) (by decide)) (by decide)
        · have e1 : leastW ws ps k = ws[k] / common (mates ws ps k ws.length) := by
            unfold leastW
            rw [ew]
          rw [List.range_succ, List.map_append, List.map_append, List.map_singleton, List.map_singleton, e1]
          have e2 : (PyData.int (((ws[k] : Nat) : Int).fdiv ((common (mates ws ps k ws.length) : Nat) : Int))) = encN (ws[k] / common (mates ws ps k ws.length)) := by
            unfold encN
            rw [Int.ofNat_fdiv]
          rw [← e2]
          rfl
    · rintro ρ' ⟨a, b, c, rfl⟩
      refine s_freeze (i := 2) rfl (s_ret (ev_cb (ag_cons (ev_var rfl) ag_nil) cb_tupleL) (.inl rfl))
end
end K57
/-! F11: what is seen of one coming -/
namespace K57
open PySem PySem.Spec PyProof.Rows L2 PD M
theorem seenAt_len (row r : List Ball) (g : Grp) : (seenAt row r g).length ≤ 1 := by
  unfold seenAt
  split
  · split <;> simp
  · simp
theorem seenUp_len (row r : List Ball) (gs : List Grp) : ∀ k, (seenUp row r gs k).length ≤ k
  | 0 => Nat.le_refl _
  | k + 1 => by
    unfold seenUp
    rw [List.length_append]
    have h := seenUp_len row r gs k
    split
    · rename_i g _
      have := seenAt_len row r g
      omega
    · simp; omega
section
variable {P : Program} {w : World} {K : PySem.W.Frag} {mg : Str → Option Value} {base : Heap}
theorem ev_sb {M : Addr → Prop} {ρ : List Sl} {te tj : TE} {b : Ball} (h : Ev K M te ρ (encB b)) (hj : Ev K M tj ρ (.int 1)) : Ev K M (tOp (rIxT K) te tj) ρ (encR b.s) := ev_op h hj (od_ixT rfl)
theorem sc__law_seen : FnScope ["_law_row_here", "_law_shuts", "_law_some", "_law_moment", "_law_later_row", "_law_later_shuts", "_law_first", "_law_last", "_law_where"] ["_law_row_here", "_law_shuts"] (defScope (top 73)) := ⟨rfl, rfl, rfl, by decide +kernel, rfl, by decide +kernel, by decide +kernel⟩
theorem ok__law_seen {f aN aO : Addr} {fd : FuncData} (T : Txt K mg aN aO) {cT cS : Addr}  (C_behind : Cal P w K mg base (L2.CX P w) 8 "behind" ["row", "walls"] [] (spF K (R_behind cT cS))) (C_next_coming : Cal P w K mg base (L2.CX P w) 7 "next_coming" ["row", "walls"] [] (spF K (R_next_coming cS)))  (F : FunD K "_law_seen" "_law_seen" (defArgs (top 73)) (defBody (top 73)) (defScope (top 73)) [] [] f fd) : FnOk P w K mg base CX0 9 f fd ["_law_row_here", "_law_shuts"] (spF K R_seen) := by
  refine ok_def F sc__law_seen (fun ds o h => ?_) (fun cdv A outer s H W hr => ⟨_, (pss_cons (ps_set (i := 2) sc__law_seen.nd rfl (Or.inl rfl) (pe_lst pa_nil))
      (pss_cons (ps_asg (pe_cal C_behind (hr.mono (by decide)) passL (pa_cons (pv 0) (pa_cons (pv 1) pa_nil))) (pg_tup rfl (pgs_cons (pg_name (i := 3) sc__law_seen.nd rfl (Or.inl rfl)) (pgs_cons (pg_name (i := 4) sc__law_seen.nd rfl (Or.inl rfl)) (pgs_cons (pg_name (i := 5) sc__law_seen.nd rfl (Or.inl rfl)) pgs_nil)))))
      (pss_cons (ps_for (passes_of rfl) rfl (pi_list (pe_ix ix_tup (pe_cal C_next_coming (hr.mono (by decide)) passL (pa_cons (pv 0) (pa_cons (pv 1) pa_nil))) pe_int (fun _ _ => rfl))) (pg_tup rfl (pgs_cons (pg_name (i := 6) sc__law_seen.nd rfl (Or.inl rfl)) (pgs_cons (pg_name (i := 7) sc__law_seen.nd rfl (Or.inl rfl)) (pgs_cons (pg_name (i := 8) sc__law_seen.nd rfl (Or.inl rfl)) pgs_nil)))) (pss_one (ps_if (PW.pt (pw_and (pt_cmpR op_eq (pv 8) pe_str (nomark _)) (pw_and1 (pt_cmpR op_eq (pv 7) (pe_op op_add (pv 6) pe_int) (nomark _))))) (pss_one (ps_expr (pe_bm PySem.F.plainAttrs_list PySem.F.slot_list_append PySem.F.type_list_append mt_append (pv 2) (pa_cons (pe_tup (pa_cons (pv 6) (pa_cons (pv 7) (pa_cons (pe_ix ix_tup (pe_ix ix_tup (pv 0) (pv 6) (fun _ _ => rfl)) pe_int (fun _ _ => rfl)) (pa_cons (pe_ix ix_tup (pe_ix ix_tup (pv 0) (pv 7) (fun _ _ => rfl)) pe_int (fun _ _ => rfl)) (pa_cons (pe_ix ix_tup (pe_ix ix_tup (pv 4) (pv 6) (fun _ _ => rfl)) pe_int (fun _ _ => rfl)) (pa_cons (pe_ix ix_tup (pe_ix ix_tup (pv 4) (pv 7) (fun _ _ => rfl)) pe_int (fun _ _ => rfl)) pa_nil))))))) pa_nil)))) pss_nil)))
      (pss_one (ps_ret (pe_tup (pa_cons (pv 2) (pa_cons (pv 4) (pa_cons (pv 5) pa_nil))))))))), fun ds o h => ?_⟩)
  · obtain ⟨row, ws, l, r, ws2, rfl, _, _, rfl⟩ := h
    exact ⟨rfl, .inl ⟨_, rfl⟩⟩
  · obtain ⟨row, ws, l, r, ws2, rfl, hrow, hs, rfl⟩ := h
    obtain ⟨t, gs, en, eb, hlen, hg, hgl, rfl⟩ := hs.ex
    refine s_seq (s_setL (el_lst ag_nil) ?_)
    refine s_seq (s_asg (ev_fn (d := .tuple [encR t, .tuple (r.map encB), encWs ws2]) (ag_cons (ev_var rfl) (ag_cons (ev_var rfl) ag_nil)) ⟨row, ws, rfl, hrow, by rw [eb]; rfl⟩) (tg_tup rfl (tgA_cons tg_name (tgA_cons tg_name (tgA_cons tg_name tgA_nil)))) ?_)
    refine s_seq (s_forL (xs := gs.map encG) (fun k ρ' => ∃ a b c : Sl, ρ' = [.d (.tuple (row.map encB)), .d (encWs ws), .l ((seenUp row r gs k).map encS), .d (encR t), .d (.tuple (r.map encB)), .d (encWs ws2), a, b, c]) (ev_op (ev_fn (d := .tuple [encR t, .list (gs.map encG)]) (ag_cons (ev_var rfl) (ag_cons (ev_var rfl) ag_nil)) ⟨row, ws, rfl, hrow, by rw [en]; rfl⟩) ev_int (od_ixT rfl)) ⟨.u, .u, .u, rfl⟩ ?_ ?_)
    · rintro k x ρ' hx ⟨a, b, c, rfl⟩
      obtain ⟨g, eg, rfl⟩ := map_get hx
      obtain ⟨g1, g2⟩ := hg g (List.mem_of_getElem? eg)
      have hk : k < gs.length := (List.getElem?_eq_some_iff.mp eg).1
      have eu : seenUp row r gs (k + 1) = seenUp row r gs k ++ seenAt row r g := by
        show seenUp row r gs k ++ (match gs[k]? with | some g => seenAt row r g | none => []) = _
        rw [eg]
      refine ⟨_, tg_tup rfl (tgA_cons tg_name (tgA_cons tg_name (tgA_cons tg_name tgA_nil))), ?_⟩
      refine s_if (te_and (te_test (ev_op (ev_var rfl) ev_str od_eqS)) fun _ => te_test (ev_op (ev_var rfl) (ev_add (ev_var rfl) ev_int) od_eqI)) (fun h => ?_) fun h => s_next ?_
      · rw [Bool.and_eq_true] at h
        have h1 : g.wh = "" := of_decide_eq_true h.1
        have h2 : g.last = g.first + 1 := by have := of_decide_eq_true h.2; omega
        have ea : row[g.first]? = some (row[g.first]'(by omega)) := List.getElem?_eq_getElem (by omega)
        have eb' : row[g.last]? = some (row[g.last]'(by omega)) := List.getElem?_eq_getElem (by omega)
        have ec : r[g.first]? = some (r[g.first]'(by omega)) := List.getElem?_eq_getElem (by omega)
        have ed : r[g.last]? = some (r[g.last]'(by omega)) := List.getElem?_eq_getElem (by omega)
        have es : seenAt row r g = [⟨g.first, g.last, (row[g.first]'(by omega)).s, (row[g.last]'(by omega)).s, (r[g.first]'(by omega)).s, (r[g.last]'(by omega)).s⟩] := by
          unfold seenAt
          rw [if_pos ⟨h1, h2⟩, ea, eb', ec, ed]
        refine s_append rfl (d := encS ⟨g.first, g.last, (row[g.first]'(by omega)).s, (row[g.last]'(by omega)).s, (r[g.first]'(by omega)).s, (r[g.last]'(by omega)).s⟩) (ev_tup (ag_cons (ev_var rfl) (ag_cons (ev_var rfl) (ag_cons (ev_sb (ev_ixTn (ev_var rfl) (ev_var rfl) (get_map ea)) ev_int) (ag_cons (ev_sb (ev_ixTn (ev_var rfl) (ev_var rfl) (get_map eb')) ev_int) (ag_cons (ev_sb (ev_ixTn (ev_var rfl) (ev_var rfl) (get_map ec)) ev_int) (ag_cons (ev_sb (ev_ixTn (ev_var rfl) (ev_var rfl) (get_map ed)) ev_int) ag_nil))))))) (by have := seenUp_len row r gs k; rw [List.length_map]; omega) ?_
        refine ⟨.d (.int (g.first : Int)), .d (.int (g.last : Int)), .d (.str g.wh), ?_⟩
        rw [eu, es, List.map_append]
        rfl
      · have es : seenAt row r g = [] := by
          unfold seenAt
          refine if_neg fun c => ?_
          rw [decide_eq_true c.1, Bool.true_and] at h
          have := of_decide_eq_false h
          omega
        refine ⟨.d (.int (g.first : Int)), .d (.int (g.last : Int)), .d (.str g.wh), ?_⟩
        rw [eu, es, List.append_nil]
        rfl
    · rintro ρ' ⟨a, b, c, rfl⟩
      rw [List.length_map]
      refine s_freeze (i := 2) rfl (s_ret (ev_tup (ag_cons (ev_var rfl) (ag_cons (ev_var rfl) (ag_cons (ev_var rfl) ag_nil)))) (.inl rfl))
end
end K57
/-! PD5: the pool (a list of three whole numbers that several defs write), values that are not told -/
namespace PD
open PySem PySem.Spec PyProof.Rows L2
/-- whole numbers that are not told -/
abbrev IntP (A : Int → Prop) (d : PyData) : Prop := ∃ z : Int, d = .int z ∧ A z
/-- a def that takes the pool: for ds it gives some datum in Pd -/
def spP (K : PySem.W.Frag) (R : List PyData → (PyData → Prop) → Prop) : Sp := fun vs H Q _ => ∃ (F : Hp) (a : Addr) (us : List V) (ds : List PyData) (Pd : PyData → Prop), vs = .ref a :: us ∧ Same F H ∧ F a = none ∧ IsPool H a ∧ RpA K F us ds ∧ R ds Pd ∧
  ∀ d v F' H', Pd d → Step (fun b => b = a) F H F' H' → Rp K F' v d → Q v H'
section
variable {K : PySem.W.Frag} {M : Addr → Prop} {W : XK} {ρ : List Sl} {te tj : TE} {tt tu : TT} {tA : TA} {t u : TS} {d : PyData} {P : PyData → Prop} {Φ : Out → Prop} {i : Nat}
theorem pool_ne {H : Hp} {a : Addr} (h : IsPool H a) : H a ≠ none := by
  obtain ⟨x, y, z, h⟩ := h
  rw [h]
  exact fun z => nomatch z
theorem evN_pool {R : List PyData → (PyData → Prop) → Prop} {PA : List PyData → Prop} (e : ρ[i]? = some .p) (ha : AN K M tA ρ PA) (ho : ∀ ds, PA ds → ∃ Pd, R ds Pd ∧ ∀ d, Pd d → P d) : EvN K M (tCall (spP K R) [] W (tCons (tVar i) tA)) ρ P := fun F H σ s o Q q => by
  obtain ⟨w, e1, a, rfl, ma, fa, pa⟩ := o.at_ e
  refine ⟨.ref a, e1, ha F H σ s o _ fun ds vs F1 H1 p st r => ?_⟩
  obtain ⟨Pd, hR, hP⟩ := ho ds p
  exact ⟨F1, a, vs, ds, Pd, by rw [List.append_nil], st.fh, st.nf a (pool_ne pa) fa, st.pl a ma pa, r, hR, fun d v F' H' pd st' rv => q d v F' H' (hP d pd) (st.trans o.mp (.pool ma st')) rv⟩
theorem pool_at {x y z : Int} {k : Nat} (hk : k < 3) : ∃ w : Int, atI [V.int x, V.int y, V.int z] (k : Int) = some (.int w) := by
  match k, hk with
  | 0, _ => exact ⟨x, rfl⟩
  | 1, _ => exact ⟨y, rfl⟩
  | 2, _ => exact ⟨z, rfl⟩
theorem evN_ixP {k : Nat} (e : ρ[i]? = some .p) (hj : Ev K M tj ρ (.int (k : Int))) (hk : k < 3) : EvN K M (tOp (rIxL K) (tVar i) tj) ρ (IntP fun _ => True) := fun F H σ s o Q q => by
  obtain ⟨w, e1, a, rfl, ma, fa, pa⟩ := o.at_ e
  refine ⟨.ref a, e1, hj F H σ s o _ fun d2 v2 F2 H2 p2 st2 rd2 => ?_⟩
  subst p2
  rw [rd2.int_]
  obtain ⟨x, y, z, h⟩ := st2.pl a ma pa
  obtain ⟨w, hw⟩ := pool_at (x := x) (y := y) (z := z) hk
  exact ⟨a, _, k, .int w, rfl, rfl, .of h, hw, q _ _ F2 H2 ⟨w, rfl, trivial⟩ st2 (.int w)⟩
theorem Step.poolSet {F H : Hp} {a : Addr} {o : HO} (s : Same F H) (ma : M a) (fa : F a = none) (h : IsPool (upd H a o) a) : Step M F H F (upd H a o) := by
  have ne : ∀ b, b ≠ a → upd H a o b = H b := fun b hb => upd_ne hb
  refine ⟨.refl _, fun b x e => ?_, fun b x e m => ?_, fun b _ e => e, fun b m e => ?_⟩
  · rw [ne b fun z => by rw [z, fa] at e; cases e]
    exact s b x e
  · rw [ne b fun z => m (z ▸ ma)]
    exact e
  · by_cases hb : b = a
    · rw [hb]; exact h
    · obtain ⟨x, y, z, e⟩ := e
      exact ⟨x, y, z, by rw [ne b hb]; exact e⟩
theorem s_putZ {k : Nat} {A : Int → Prop} (e : ρ[i]? = some .p) (h : EvN K M te ρ (IntP A)) (hj : Ev K M tj ρ (.int (k : Int))) (hk : k < 3) (q : Φ (.nx ρ)) : S K M W (tAsg te (gSub (tVar i) tj rSetL)) ρ Φ := fun H0 F0 F H σ D s k1 _ _ _ _ => by
  refine h F H σ s.st.fh s.sl _ fun d v F' H' p st rd => ?_
  obtain ⟨n, rfl, _⟩ := p
  have s' := s.step st
  obtain ⟨w, e1, a, rfl, ma, fa, pa⟩ := s'.sl.at_ e
  refine ⟨.ref a, e1, hj F' H' σ s'.st.fh s'.sl _ fun d2 v2 F2 H2 p2 st2 rd2 => ?_⟩
  subst p2
  rw [rd2.int_, rd.int_]
  have fa2 := st2.nf a (pool_ne pa) fa
  obtain ⟨x, y, z, h2⟩ := st2.pl a ma pa
  have hix : ixN ([V.int x, V.int y, V.int z]).length (k : Int) = some k := by
    unfold ixN
    rw [if_pos (Int.natCast_nonneg _), if_pos (by show (k : Int) < (3 : Nat); omega), Int.toNat_natCast]
  refine ⟨a, _, k, k, rfl, rfl, h2, hix, k1 _ _ F2 _ q ((s'.step st2).step (.poolSet st2.fh ma fa2 ?_))⟩
  match k, hk with
  | 0, _ => exact ⟨n, y, z, upd_same⟩
  | 1, _ => exact ⟨x, n, z, upd_same⟩
  | 2, _ => exact ⟨x, y, n, upd_same⟩
/-! tests of values that are not told -/
theorem tN_and {A B C : Bool → Prop} (h : TN K M tt ρ A) (g : A true → TN K M tu ρ B) (c1 : A false → C false) (c2 : A true → ∀ b, B b → C b) : TN K M (tAnd tt tu) ρ C := fun F H σ s o Q q =>
  h F H σ s o _ fun b F1 H1 pb s1 => by
    cases b with
    | true => exact iteT (g pb F1 H1 σ s1.fh (o.step s1) _ fun b F2 H2 pb2 s2 => q b F2 H2 (c2 pb b pb2) (s1.trans o.mp s2))
    | false => exact iteF (q false F1 H1 (c1 pb) s1)
theorem tN_val {PB : Bool → Prop} (h : EvN K M te ρ P) (hp : ∀ d, P d → ∃ b, d = .bool b ∧ PB b) : TN K M (tB te) ρ PB := fun F H σ s o Q q =>
  h F H σ s o _ fun d x F1 H1 pd s1 r1 => by
    obtain ⟨b, rfl, hb⟩ := hp d pd
    rw [r1.bl_]
    exact ⟨b, rfl, q b F1 H1 hb s1⟩
theorem tN_not {A B : Bool → Prop} (h : TN K M tt ρ A) (g : ∀ b, A b → B (!b)) : TN K M (tNot tt) ρ B := fun F H σ s o Q q =>
  h F H σ s o _ fun b F1 H1 pb s1 => q _ F1 H1 (g b pb) s1
theorem TN.imp {A B : Bool → Prop} (h : TN K M tt ρ A) (g : ∀ b, A b → B b) : TN K M tt ρ B := fun F H σ s o Q q => h F H σ s o Q fun b F1 H1 pb s1 => q b F1 H1 (g b pb) s1
theorem evN_i {a : Int} {A : Int → Prop} (h : Ev K M te ρ (.int a)) (ha : A a) : EvN K M te ρ (IntP A) := h.imp fun d e => ⟨a, e, ha⟩
theorem evN_I {r : R2} {ta tb : TE} {A B C : Int → Prop} {f : Int → Int → Int} (ha : EvN K M ta ρ (IntP A)) (hb : EvN K M tb ρ (IntP B)) (ho : ∀ a b, A a → B b → C (f a b) ∧ OpD K r (.int a) (.int b) (.int (f a b))) : EvN K M (tOp r ta tb) ρ (IntP C) :=
  evN_op ha hb fun a b ⟨x, ex, hx⟩ ⟨y, ey, hy⟩ => by
    subst ex ey
    exact ⟨_, ⟨_, rfl, (ho x y hx hy).1⟩, (ho x y hx hy).2⟩
theorem tN_I {r : R2} {ta tb : TE} {A B : Int → Prop} {PB : Bool → Prop} (ha : EvN K M ta ρ (IntP A)) (hb : EvN K M tb ρ (IntP B)) (ho : ∀ a b, A a → B b → ∃ c, PB c ∧ OpD K r (.int a) (.int b) (.bool c)) : TN K M (tTest (tOp r ta tb)) ρ PB :=
  tN_test (P := fun d => ∃ b, d = .bool b ∧ PB b) (evN_op ha hb fun a b ⟨x, ex, hx⟩ ⟨y, ey, hy⟩ => by
    subst ex ey
    obtain ⟨c, h1, h2⟩ := ho x y hx hy
    exact ⟨_, ⟨c, rfl, h1⟩, h2⟩) fun d h => h
theorem evN_fn {R : List PyData → Out → Prop} {PA : List PyData → Prop} (ha : AN K M tA ρ PA) (ho : ∀ ds, PA ds → ∃ d, R ds (.rt d) ∧ P d) : EvN K M (tCall (spF K R) [] W tA) ρ P := evN_call ha fun ds h => by
  obtain ⟨d, h1, h2⟩ := ho ds h
  exact ⟨d, h2, spD_of0 h1⟩
theorem s_cut (J : List Sl → Prop) (h : S K M W t ρ (fun o => ∃ ρ', o = .nx ρ' ∧ J ρ')) (q : ∀ ρ', J ρ' → S K M W u ρ' Φ) : S K M W (tSeq t u) ρ Φ := s_seq (h.imp fun o ⟨ρ', e, j⟩ => by
  subst e
  exact q ρ' j)
/-- over a range whose end is not told -/
theorem s_forRN {g : TG} {N : Nat} {J : Nat → List Sl → Prop} (he : AN K M tA ρ (fun ds => ∃ n : Nat, ds = [.int (n : Int)] ∧ n ≤ N)) (hN : N < 1000) (h0 : J 0 ρ) (hg : ∀ (k : Nat) (ρ' : List Sl), k < N → J k ρ' → ∃ ρ2, Tg K M g ρ' (.int k) ρ2 ∧ S K M W t ρ2 (turnS Φ (J (k + 1)))) (hd : ∀ n ρ', n ≤ N → J n ρ' → Φ (.nx ρ')) :
    S K M W (tFor (iRng1 tA) g t) ρ Φ := fun H0 F0 F H σ D s k1 k2 k3 k4 k5 =>
  he F H σ s.st.fh s.sl _ fun d' v F1 H1 p st r => by
    obtain ⟨n, p, hn⟩ := p
    subst p
    obtain ⟨w, rfl, rw_⟩ := r.one
    rw [rw_.int_]
    have s1 := s.step st
    refine ⟨n, rfl, by have : (-(2:Int)^62) ≤ 0 := by decide
                       omega, by have : (1000:Int) < 2^62 := by decide
                                 omega, for_range (lo := 0) (n := (n : Int).toNat) (fun k σ' H' => ∃ F' ρ', J k ρ' ∧ SSt K M H0 F1 F' H' ρ' σ') ⟨F1, ρ, h0, s1.base⟩ ?_ ?_⟩
    · rintro k σ' H' hk ⟨F', ρ', j, s'⟩
      obtain ⟨ρ2, htg, hS⟩ := hg k ρ' (by have hk : k < n := by simpa using hk
                                          omega) j
      refine htg H0 F1 F' H' σ' _ _ s' (by rw [Int.zero_add]; exact .int _) fun σ2 s2 => ?_
      refine hS H0 F1 F' H' σ2 _ s2 (fun ρ3 σ3 F3 H3 q s3 => ⟨F3, ρ3, q, s3⟩) (fun d v F3 H3 q st3 r3 => k2 d v F3 H3 q (s1.st.unbase st3) r3) (fun ρ3 σ3 F3 H3 q s3 => k1 _ _ _ _ q (s3.unbase s1.st)) (fun ρ3 σ3 F3 H3 q s3 => ⟨F3, ρ3, q, s3⟩) (fun C dd F3 H3 q st3 => k5 C dd F3 H3 q (s1.st.unbase st3))
    · rintro σ' H' ⟨F', ρ', j, s'⟩
      rw [Int.toNat_natCast] at j
      exact k1 _ _ _ _ (hd n ρ' hn j) (s'.unbase s1.st)
theorem evN_ixLP {ta tb : TE} {xs : List PyData} {A : Int → Prop} (ha : Ev K M ta ρ (.list xs)) (hb : EvN K M tb ρ (IntP A)) (ho : ∀ a, A a → ∃ d, atI xs a = some d ∧ P d) : EvN K M (tOp (rIxL K) ta tb) ρ P :=
  evN_op ha hb fun a b ea ⟨y, ey, hy⟩ => by
    subst ea ey
    obtain ⟨d, h1, h2⟩ := ho y hy
    exact ⟨d, h2, od_ixL h1⟩
/-- an item of a list of values that are not told -/
theorem evN_ixLN {ta tb : TE} {A : Int → Prop} {PA : List PyData → Prop} (ha : EvN K M ta ρ (fun d => ∃ xs, d = .list xs ∧ PA xs)) (hb : EvN K M tb ρ (IntP A)) (ho : ∀ xs a, PA xs → A a → ∃ d, atI xs a = some d ∧ P d) : EvN K M (tOp (rIxL K) ta tb) ρ P :=
  evN_op ha hb fun a b ⟨xs, ea, hx⟩ ⟨y, ey, hy⟩ => by
    subst ea ey
    obtain ⟨d, h1, h2⟩ := ho xs y hx hy
    exact ⟨d, h2, od_ixL h1⟩
theorem evN_lst {PA : List PyData → Prop} (h : ELN K M te ρ PA) : EvN K M te ρ (fun d => ∃ xs, d = .list xs ∧ PA xs) := ELN.ev h fun xs hx => ⟨xs, rfl, hx⟩
theorem aN_nil : AN K M tNil ρ (fun ds => ds = []) := ag_nil
theorem aN_one {A : PyData → Prop} (h : EvN K M te ρ A) : AN K M (tCons te tNil) ρ (fun ds => ∃ d, ds = [d] ∧ A d) := aN_cons h ag_nil fun d ds hd e => ⟨d, by rw [e], hd⟩
theorem aN_two {ta tb : TE} {A B : PyData → Prop} (ha : EvN K M ta ρ A) (hb : EvN K M tb ρ B) : AN K M (tCons ta (tCons tb tNil)) ρ (fun ds => ∃ d e, ds = [d, e] ∧ A d ∧ B e) := aN_cons ha (aN_one hb) fun d ds hd ⟨e, h1, h2⟩ => ⟨d, e, by rw [h1], hd, h2⟩
/-! ### defs that take the pool -/
def initP (N : List Str) (ds : List PyData) : List Sl := .p :: (ds.map .d ++ List.replicate (N.length - (ds.length + 1)) .u)
theorem initP_ok {F H : Hp} {N : List Str} {a : Addr} {vs : List V} {ds : List PyData} (s : Same F H) (r : RpA K F vs ds) (fa : F a = none) (pa : IsPool H a) : SSt K (fun b => b = a) H F F H (initP N ds) (L2.start N (.ref a :: vs)) := by
  have key : ∀ {i : Nat} {t : Sl}, (initP N ds)[i]? = some t → t = .u ∨ t = .p ∨ ∃ d, t = .d d := fun {i t} e => by
    unfold initP at e
    rcases List.mem_cons.mp (List.mem_of_getElem? e) with h | h
    · exact .inr (.inl h)
    · rcases List.mem_append.mp h with h | h
      · obtain ⟨d, _, rfl⟩ := List.mem_map.mp h
        exact .inr (.inr ⟨d, rfl⟩)
      · exact .inl (List.eq_of_mem_replicate h)
  refine ⟨⟨?_, fun i t w e1 e2 => ?_, fun b m => by cases m; exact pa⟩, .refl s, fun b m => by cases m; exact pa, fun i t w b e1 _ ow => ?_, fun i j t u v w b e1 _ _ _ ow _ => ?_⟩
  · unfold L2.start initP
    simp only [List.length_append, List.length_map, List.length_replicate, List.length_cons, r.length]
    omega
  · unfold initP at e1
    unfold L2.start at e2
    cases i with
    | zero =>
      simp at e1 e2
      subst e1 e2
      exact ⟨a, rfl, rfl, fa, pa⟩
    | succ i =>
      simp only [List.map_cons, List.cons_append, List.getElem?_cons_succ] at e1 e2
      by_cases hi : i < ds.length
      · rw [List.getElem?_append_left (by simpa using hi), List.getElem?_map] at e1
        rw [List.getElem?_append_left (by rw [List.length_map, r.length]; exact hi), List.getElem?_map] at e2
        obtain ⟨v, hv, rv⟩ := r.get (List.getElem?_eq_getElem hi)
        rw [List.getElem?_eq_getElem hi] at e1
        rw [hv] at e2
        cases e1
        cases e2
        exact ⟨v, rfl, rv⟩
      · rw [List.getElem?_append_right (by simpa using hi), List.getElem?_replicate] at e1
        split at e1
        · cases e1
          trivial
        · cases e1
  · rcases key e1 with z | z | ⟨d, z⟩ <;> subst z <;> exact ow.elim
  · rcases key e1 with z | z | ⟨d, z⟩ <;> subst z <;> exact ow.elim
end
section
variable {P : Program} {w : World} {K : PySem.W.Frag} {mg : Str → Option Value} {base : Heap}
/-- the general rule for a def: a state of slots at the entry, ends by return alone -/
theorem ok_defG {CX : CXT} {x qual : Str} {params : Arguments} {body : List Stmt} {scope : Scope} {dvs : List V} {kws : List (Str × V)} {f : Addr} {fd : FuncData} {N ps : List Str} {k : Nat} {sp : Sp}
    (F : FunD K x qual params body scope dvs kws f fd) (Sc : FnScope N ps scope) (hl : ∀ vs H Q W, sp vs H Q W → vs.length = ps.length)
    (h : ∀ (cdv : Value) (A : Around) (outer : List Env) (s : Shared) (H : Hp) (W : XK), Room k (A.deeper (envOfC qual scope s.heap.objs.size f cdv)) →
      ∃ t, PSs (cxOf CX P w K mg base N qual scope f cdv A outer s H W) body t ∧ ∀ vs Q, sp vs H Q W → ∃ (M : Addr → Prop) (Fz : Hp) (ρ : List Sl) (Pd : PyData → Prop), SSt K M H Fz Fz H ρ (L2.start N vs) ∧ S K M W t ρ (fun o => ∃ d, o = .rt d ∧ Pd d) ∧ (∀ d v F' H', Pd d → Step M Fz H F' H' → Rp K F' v d → Q v H')) :
    FnOk P w K mg base CX (k + 1) f fd ps sp := by
  refine F.ok Sc hl (fun cdv A outer s H vs Q W hr hs => ?_)
  obtain ⟨t, ht, hS⟩ := h cdv A outer s H W hr
  obtain ⟨M, Fz, ρ, Pd, st, hS, q⟩ := hS vs Q hs
  refine ⟨t, ht, hS H Fz Fz H _ _ st (fun ρ' σ' F' H' e s' => ?_) (fun d v F' H' e st rv => ?_) (fun ρ' σ' F' H' e s' => ?_) (fun ρ' σ' F' H' e s' => ?_) (fun C dd F' H' e st => ?_)⟩
  · obtain ⟨_, z, _⟩ := e; cases z
  · obtain ⟨d', z, pd⟩ := e
    cases z
    exact q d v F' H' pd st rv
  · obtain ⟨_, z, _⟩ := e; cases z
  · obtain ⟨_, z, _⟩ := e; cases z
  · obtain ⟨_, z, _⟩ := e; cases z
theorem ok_defP {CX : CXT} {x qual : Str} {params : Arguments} {body : List Stmt} {scope : Scope} {dvs : List V} {kws : List (Str × V)} {f : Addr} {fd : FuncData} {N ps : List Str} {k : Nat} {R : List PyData → (PyData → Prop) → Prop}
    (F : FunD K x qual params body scope dvs kws f fd) (Sc : FnScope N ps scope) (hl : ∀ ds Pd, R ds Pd → ds.length + 1 = ps.length)
    (h : ∀ (cdv : Value) (A : Around) (outer : List Env) (s : Shared) (H : Hp) (W : XK), Room k (A.deeper (envOfC qual scope s.heap.objs.size f cdv)) →
      ∃ t, PSs (cxOf CX P w K mg base N qual scope f cdv A outer s H W) body t ∧ ∀ a ds Pd, R ds Pd → S K (fun b => b = a) W t (initP N ds) (fun o => ∃ d, o = .rt d ∧ Pd d)) :
    FnOk P w K mg base CX (k + 1) f fd ps (spP K R) := by
  refine ok_defG F Sc (fun vs H Q W hs => ?_) (fun cdv A outer s H W hr => ?_)
  · obtain ⟨Fz, a, us, ds, Pd, rfl, _, _, _, r, hR, _⟩ := hs
    rw [List.length_cons, r.length]
    exact hl ds Pd hR
  · obtain ⟨t, ht, hS⟩ := h cdv A outer s H W hr
    refine ⟨t, ht, fun vs Q hs => ?_⟩
    obtain ⟨Fz, a, us, ds, Pd, rfl, sm, fa, pa, r, hR, q⟩ := hs
    exact ⟨_, Fz, _, Pd, initP_ok sm r fa pa, hS a ds Pd hR, fun d v F' H' pd st rv => q d v F' H' pd st rv⟩
end
end PD
/-! D5: what is drawn from the pool -/
namespace K57
open PySem PySem.Spec PyProof.Rows L2 PD M
/-- x is m/D, m below B -/
def On (D : Nat) (B : Nat) (x : Rat) : Prop := ∃ m : Int, x = Rat.divInt m D ∧ m.natAbs < B
theorem On.mono {D B B' : Nat} {x : Rat} (h : On D B x) (l : B ≤ B') : On D B' x := by
  obtain ⟨m, e, hm⟩ := h
  exact ⟨m, e, by omega⟩
theorem divInt_add_same (m n : Int) {D : Nat} (h : 0 < D) : Rat.divInt m D + Rat.divInt n D = Rat.divInt (m + n) D := by
  have h0 : ((D : Int) : Rat) ≠ 0 := by
    intro e
    have : (D : Int) = 0 := by exact_mod_cast e
    omega
  rw [Rat.divInt_eq_div, Rat.divInt_eq_div, Rat.divInt_eq_div, Rat.intCast_add]
  grind
theorem divInt_neg' (m : Int) (D : Int) : -Rat.divInt m D = Rat.divInt (-m) D := by
  rw [Rat.divInt_eq_div, Rat.divInt_eq_div, Rat.intCast_neg]
  grind
theorem On.add {D A B : Nat} {x y : Rat} (hD : 0 < D) (h : On D A x) (g : On D B y) : On D (A + B) (x + y) := by
  obtain ⟨m, rfl, hm⟩ := h
  obtain ⟨n, rfl, hn⟩ := g
  exact ⟨m + n, divInt_add_same m n hD, by omega⟩
theorem On.neg {D A : Nat} {x : Rat} (h : On D A x) : On D A (-x) := by
  obtain ⟨m, rfl, hm⟩ := h
  exact ⟨-m, divInt_neg' m D, by omega⟩
theorem On.sub {D A B : Nat} {x y : Rat} (hD : 0 < D) (h : On D A x) (g : On D B y) : On D (A + B) (x - y) := by
  rw [Rat.sub_eq_add_neg]
  exact h.add hD g.neg
theorem On.sm {D a : Nat} {x : Rat} (h : On D (2 ^ a) x) (hD : 0 < D) (hD2 : D < 2 ^ a) : Sm a x := by
  obtain ⟨m, rfl, hm⟩ := h
  exact divInt_small (by omega) hm (by omega)
theorem On.sub0 {D A : Nat} (h : 0 < A) : On D A 0 := ⟨0, by rw [Rat.zero_divInt], h⟩
/-- t/b over a bottom that b divides -/
theorem On.of {t : Int} {b c D A : Nat} (hb : 0 < b) (hc : 0 < c) (e : b * c = D) (h : t.natAbs * c < A) : On D A (Rat.divInt t b) := by
  refine ⟨t * c, ?_, by rw [Int.natAbs_mul]; exact h⟩
  rw [← e, Int.natCast_mul, Rat.divInt_mul_right (by omega)]
abbrev Dr (q : Rat) : Prop := On 27720 (2 ^ 87) q
abbrev DrP (q : Rat) : Prop := On 27720 (2 ^ 88) q
theorem Dr.sm {q : Rat} (h : Dr q) : Sm 87 q := On.sm h (by decide) (by decide)
theorem DrP.sm {q : Rat} (h : DrP q) : Sm 88 q := On.sm h (by decide) (by decide)
theorem dvd_dr {b : Nat} (h0 : 0 < b) (h : b ≤ 12) : ∃ c, 0 < c ∧ b * c = 27720 ∧ c ≤ 27720 := by
  have : b = 1 ∨ b = 2 ∨ b = 3 ∨ b = 4 ∨ b = 5 ∨ b = 6 ∨ b = 7 ∨ b = 8 ∨ b = 9 ∨ b = 10 ∨ b = 11 ∨ b = 12 := by omega
  rcases this with rfl | rfl | rfl | rfl | rfl | rfl | rfl | rfl | rfl | rfl | rfl | rfl
  · exact ⟨27720, by decide⟩
  · exact ⟨13860, by decide⟩
  · exact ⟨9240, by decide⟩
  · exact ⟨6930, by decide⟩
  · exact ⟨5544, by decide⟩
  · exact ⟨4620, by decide⟩
  · exact ⟨3960, by decide⟩
  · exact ⟨3465, by decide⟩
  · exact ⟨3080, by decide⟩
  · exact ⟨2772, by decide⟩
  · exact ⟨2520, by decide⟩
  · exact ⟨2310, by decide⟩
/-- neighbours: one behind the other, or at one place and going apart -/
def Nb (a b : Th) : Prop := a.1 < b.1 ∨ (a.1 = b.1 ∧ a.2 < b.2)
/-- a wall and its ball -/
def NbW (a b : Th) : Prop := a.1 < b.1 ∨ (a.1 = b.1 ∧ a.2 ≤ b.2)
structure RowIn (row : List Ball) (ws : Ws) : Prop where
  ne : 0 < row.length
  le : row.length ≤ 5
  w : ∀ b ∈ row, 0 < b.w ∧ b.w ≤ 1000
  nb : ∀ (k : Nat) (a b : Ball), row[k]? = some a → row[k + 1]? = some b → Nb a.th b.th
  lo : ∀ (a : Th) (b : Ball), ws.1 = some a → row[0]? = some b → NbW a b.th
  hi : ∀ (a : Th) (b : Ball), ws.2 = some a → row[row.length - 1]? = some b → NbW b.th a
  lh : ∀ (a b : Th), ws.1 = some a → ws.2 = some b → a.1 < b.1
structure RowDr (row : List Ball) : Prop where
  p : ∀ b ∈ row, DrP b.p
  s : ∀ b ∈ row, Dr b.s
structure WlDr (wl : Wl) : Prop where
  p : ∀ a, wl = some a → On 27720 (2 ^ 89) a.1
  s : ∀ a, wl = some a → Dr a.2
def P_next : List PyData → (PyData → Prop) → Prop := fun ds Pd => ∃ b : Int, ds = [.int b] ∧ 0 < b ∧ b < 2 ^ 62 ∧ Pd = IntP fun z => 0 ≤ z ∧ z < b
def P_far : List PyData → (PyData → Prop) → Prop := fun ds Pd => ds = [] ∧ Pd = IntP fun z => 0 ≤ z ∧ z < 10 ^ 21
abbrev IsDr (d : PyData) : Prop := ∃ q, d = encR q ∧ Dr q
def P_ratio : List PyData → (PyData → Prop) → Prop := fun ds Pd => ds = [] ∧ Pd = IsDr
def P_row : List PyData → (PyData → Prop) → Prop := fun ds Pd => ds = [.int 5] ∧ Pd = fun d => ∃ row : List Ball, d = .tuple (row.map encB) ∧ RowIn row (none, none) ∧ RowDr row
def P_bound : List PyData → (PyData → Prop) → Prop := fun ds Pd => ∃ (b : Ball) (sd : Int), ds = [encB b, .int sd] ∧ (sd = 1 ∨ sd = -1) ∧ DrP b.p ∧ Dr b.s ∧ Pd = fun d => ∃ wl : Wl, d = encW wl ∧ WlDr wl ∧ ∀ a, wl = some a → (sd = 1 → NbW a b.th) ∧ (sd = -1 → NbW b.th a)
def P_bounds : List PyData → (PyData → Prop) → Prop := fun ds Pd => ∃ row : List Ball, ds = [.tuple (row.map encB)] ∧ RowIn row (none, none) ∧ RowDr row ∧ Pd = fun d => ∃ ws : Ws, d = encWs ws ∧ RowIn row ws ∧ WlDr ws.1 ∧ WlDr ws.2
/-- the k-th cell of the script, or what stands for it -/
def spCell (K : PySem.W.Frag) : Sp := fun vs H Q _ => ∃ (F : Hp) (a : Addr) (ns : List Int) (k : Nat), vs = [.ref a, .int k] ∧ Same F H ∧ SqL K F a (ns.map V.int) ∧ k ≤ 1000 ∧ ns.length ≤ 1000 ∧ ∀ (z : Int) F' H', Step (fun _ => False) F H F' H' → Q (.int z) H'
/-- a new pool -/
def spDig (K : PySem.W.Frag) : Sp := fun vs H Q _ => ∃ (F : Hp) (c : Int), vs = [.int c] ∧ Same F H ∧ ∀ (x y z : Int) (a : Addr) F' H', Step (fun _ => False) F H F' H' → F' a = none → H a = none → H' a = some (.lst [.int x, .int y, .int z]) → Q (.ref a) H'
section
variable {K : PySem.W.Frag} {M : Addr → Prop} {W : XK} {ρ : List Sl} {te : TE} {i : Nat}
theorem ev_nx {b : Int} (e : ρ[i]? = some .p) (hb : Ev K M te ρ (.int b)) (h0 : 0 < b) (h1 : b < 2 ^ 62) : EvN K M (tCall (spP K P_next) [] W (tCons (tVar i) (tCons te tNil))) ρ (IntP fun z => 0 ≤ z ∧ z < b) :=
  evN_pool e (ag_cons hb ag_nil) fun ds h => by
    subst h
    exact ⟨_, ⟨b, rfl, h0, h1, rfl⟩, fun d h => h⟩
/-- next for a number told -/
theorem ev_nxI {b : Int} (e : ρ[i]? = some .p) (h0 : 0 < b) (h1 : b < 2 ^ 62) : EvN K M (tCall (spP K P_next) [] W (tCons (tVar i) (tCons (tC (.int b)) tNil))) ρ (IntP fun z => 0 ≤ z ∧ z < b) := ev_nx e ev_int h0 h1
/-- 1 + next(..) -/
theorem ev_1nx {b : Int} (e : ρ[i]? = some .p) (hb : Ev K M te ρ (.int b)) (h0 : 0 < b) (h1 : b < 2 ^ 62) : EvN K M (tOp (rI0 fun i j => .int (i + j)) (tC (.int 1)) (tCall (spP K P_next) [] W (tCons (tVar i) (tCons te tNil)))) ρ (IntP fun z => 1 ≤ z ∧ z ≤ b) :=
  evN_I (evN_i (A := fun z => z = 1) ev_int rfl) (ev_nx e hb h0 h1) fun a c ha hc => ⟨by omega, od_add⟩
theorem ev_rat (e : ρ[i]? = some .p) : EvN K M (tCall (spP K P_ratio) [] W (tCons (tVar i) tNil)) ρ IsDr :=
  evN_pool e ag_nil fun ds h => by
    subst h
    exact ⟨_, ⟨rfl, rfl⟩, fun d h => h⟩
theorem ev_far (e : ρ[i]? = some .p) : EvN K M (tCall (spP K P_far) [] W (tCons (tVar i) tNil)) ρ (IntP fun z => 0 ≤ z ∧ z < 10 ^ 21) :=
  evN_pool e ag_nil fun ds h => by
    subst h
    exact ⟨_, ⟨rfl, rfl⟩, fun d h => h⟩
end
end K57
/-! F12: digits, ratios -/
namespace K57
open PySem PySem.Spec PyProof.Rows L2 PD M
theorem fmod_in {a b : Int} (h : 0 < b) : 0 ≤ a.fmod b ∧ a.fmod b < b := ⟨Int.fmod_nonneg_of_pos a h, Int.fmod_lt_of_pos a h⟩
theorem pow7 {k : Nat} (h : k ≤ 3) : ((10 : Int) ^ 7) ^ k ≤ (10 ^ 7) ^ 3 := by
  have : k = 0 ∨ k = 1 ∨ k = 2 ∨ k = 3 := by omega
  rcases this with rfl | rfl | rfl | rfl <;> decide
theorem cdivz {a b : Int} (h0 : b ≠ 0) (h : b.natAbs < 2 ^ 62) : CDivZ a b := ⟨h0, Nat.lt_trans (log_lt h (by decide)) (by decide)⟩
section
variable {P : Program} {w : World} {K : PySem.W.Frag} {mg : Str → Option Value} {base : Heap}
theorem sc__law_next : FnScope ["_law_pool", "_law_base", "_law_mixed", "_law_stir", "_law_digit"] ["_law_pool", "_law_base"] (defScope (top 54)) := ⟨rfl, rfl, rfl, by decide +kernel, rfl, by decide +kernel, by decide +kernel⟩
theorem ok__law_next {f aN aO : Addr} {fd : FuncData} (T : Txt K mg aN aO)    (F : FunD K "_law_next" "_law_next" (defArgs (top 54)) (defBody (top 54)) (defScope (top 54)) [] [] f fd) : FnOk P w K mg base CX0 1 f fd ["_law_pool", "_law_base"] (spP K P_next) := by
  refine ok_defP F sc__law_next (fun ds Pd h => ?_) (fun cdv A outer s H W hr => ⟨_, (pss_cons (ps_if (pt_cmpR op_gt (pe_ix ix_list (pv 0) pe_int (fun _ _ => rfl)) pe_int (nomark _)) (pss_cons (ps_set (i := 4) sc__law_next.nd rfl (Or.inl rfl) (pe_op op_modN (pe_ix ix_list (pv 0) pe_int (fun _ _ => rfl)) (pv 1)))
      (pss_cons (ps_asg (pe_op op_fdivZ (pe_ix ix_list (pv 0) pe_int (fun _ _ => rfl)) (pv 1)) (pg_sub (pv 0) pe_int set_list))
      (pss_one (ps_ret (pv 4))))) pss_nil)
      (pss_cons (ps_asg (pe_op op_add (pe_ix ix_list (pv 0) pe_int (fun _ _ => rfl)) pe_int) (pg_sub (pv 0) pe_int set_list))
      (pss_cons (ps_set (i := 2) sc__law_next.nd rfl (Or.inl rfl) (pe_op op_modN (pe_op op_add (pe_ix ix_list (pv 0) pe_int (fun _ _ => rfl)) (pe_op op_mul pe_int (pe_ix ix_list (pv 0) pe_int (fun _ _ => rfl)))) pe_int))
      (pss_cons (ps_set (i := 3) sc__law_next.nd rfl (Or.inl rfl) (pe_op op_modN (pe_op op_mulW (pe_op op_add (pv 2) pe_int) (pe_op op_add (pv 2) pe_int)) pe_int))
      (pss_one (ps_ret (pe_op op_modN (pe_op op_fdivZ (pe_op op_modN (pe_op op_mulW (pv 3) (pv 3)) pe_int) pe_int) (pv 1)))))))), fun pa ds Pd h => ?_⟩)
  · obtain ⟨b, rfl, _⟩ := h
    rfl
  · obtain ⟨b, rfl, b0, b1, rfl⟩ := h
    refine s_seq (s_ifP (PB := fun _ => True) (tN_I (evN_ixP (k := 0) rfl (ev_i rfl) (by decide)) (evN_i (A := fun _ => True) ev_int trivial) fun a c _ _ => ⟨_, trivial, od_gt⟩) fun c _ => ⟨fun _ => ?_, fun _ => s_next ?_⟩)
    · refine s_seq (s_setP (evN_I (C := fun z => 0 ≤ z ∧ z < b) (evN_ixP (k := 0) rfl (ev_i rfl) (by decide)) (evN_i (A := fun z => z = b) (ev_var rfl) rfl) fun a c _ ec => by subst ec; exact ⟨fmod_in b0, od_mod (by omega)⟩) ?_)
      rintro d ⟨z, rfl, hz⟩
      refine s_seq (s_putZ (k := 0) (A := fun _ => True) rfl (evN_I (evN_ixP (k := 0) rfl (ev_i rfl) (by decide)) (evN_i (A := fun z => z = b) (ev_var rfl) rfl) fun a c _ ec => by subst ec; exact ⟨trivial, od_fdiv (cdivz (by omega) (by omega))⟩) (ev_i rfl) (by decide) ?_)
      exact s_ret (ev_var rfl) ⟨_, rfl, z, rfl, hz⟩
    · refine s_seq (s_putZ (k := 2) (A := fun _ => True) rfl (evN_I (evN_ixP (k := 2) rfl (ev_i rfl) (by decide)) (evN_i (A := fun _ => True) ev_int trivial) fun a c _ _ => ⟨trivial, od_add⟩) (ev_i rfl) (by decide) ?_)
      refine s_seq (s_setP (evN_I (C := fun z => 0 ≤ z ∧ z < 1000000007) (evN_I (C := fun _ => True) (evN_ixP (k := 1) rfl (ev_i rfl) (by decide)) (evN_I (C := fun _ => True) (evN_i (A := fun z => z = 7919) ev_int rfl) (evN_ixP (k := 2) rfl (ev_i rfl) (by decide)) fun a c ha _ => by subst ha; exact ⟨trivial, od_I (fun _ => .int _) (.inl ⟨by decide, by decide⟩)⟩) fun a c _ _ => ⟨trivial, od_add⟩) (evN_i (A := fun z => z = 1000000007) ev_int rfl) fun a c _ ec => by subst ec; exact ⟨fmod_in (by decide), od_mod (by decide)⟩) ?_)
      rintro d ⟨z, rfl, hz⟩
      refine s_seq (s_set (ev_op (ev_mul (ev_add (ev_var rfl) ev_int) (ev_add (ev_var rfl) ev_int) (cmul (m := 31) (n := 31) (by omega) (by omega))) ev_int (od_mod (by decide))) ?_)
      have hy := fmod_in (a := (z + 11) * (z + 48271)) (b := 998244353) (by decide)
      generalize ((z + 11) * (z + 48271)).fmod 998244353 = y at hy
      refine s_ret (ev_op (ev_op (ev_op (ev_mul (ev_var rfl) (ev_var rfl) (cmul (m := 31) (n := 31) (by omega) (by omega))) ev_int (od_mod (by decide))) ev_int (od_fdiv (cdivz (by decide) (by decide)))) (ev_var rfl) (od_mod (by omega))) ⟨_, rfl, _, rfl, fmod_in b0⟩
theorem sc__law_far : FnScope ["_law_pool", "_law_found", "_law_k"] ["_law_pool"] (defScope (top 56)) := ⟨rfl, rfl, rfl, by decide +kernel, rfl, by decide +kernel, by decide +kernel⟩
theorem ok__law_far {f aN aO : Addr} {fd : FuncData} (T : Txt K mg aN aO)  (C__law_next : Cal P w K mg base CX0 1 "_law_next" ["_law_pool", "_law_base"] [] (spP K P_next))  (F : FunD K "_law_far" "_law_far" (defArgs (top 56)) (defBody (top 56)) (defScope (top 56)) [] [] f fd) : FnOk P w K mg base CX0 2 f fd ["_law_pool"] (spP K P_far) := by
  refine ok_defP F sc__law_far (fun ds Pd h => ?_) (fun cdv A outer s H W hr => ⟨_, (pss_cons (ps_set (i := 1) sc__law_far.nd rfl (Or.inl rfl) pe_int)
      (pss_cons (ps_for (passes_of rfl) rfl (pi_range1 (by rfl) T.f_range (pa_cons (pe_op op_add pe_int (pe_cal C__law_next (hr.mono (by decide)) pass0 (pa_cons (pv 0) (pa_cons pe_int pa_nil)))) pa_nil)) (pg_name (i := 2) sc__law_far.nd rfl (Or.inl rfl)) (pss_one (ps_set (i := 1) sc__law_far.nd rfl (Or.inl rfl) (pe_op op_add (pe_op op_mulW (pv 1) (pe_op op_pow pe_int pe_int)) (pe_cal C__law_next (hr.mono (by decide)) pass0 (pa_cons (pv 0) (pa_cons (pe_op op_pow pe_int pe_int) pa_nil)))))))
      (pss_one (ps_ret (pv 1))))), fun pa ds Pd h => ?_⟩)
  · obtain ⟨rfl, _⟩ := h
    rfl
  · obtain ⟨rfl, rfl⟩ := h
    refine s_seq (s_set ev_int ?_)
    refine s_seq (s_forRN (N := 3) (J := fun k ρ' => ∃ (z : Int) (c : Sl), ρ' = [.p, .d (.int z), c] ∧ 0 ≤ z ∧ z < (10 ^ 7) ^ k) (aN_cons (ev_1nx rfl ev_int (by decide) (by decide)) ag_nil fun d ds ⟨z, ez, hz⟩ e => ⟨z.toNat, by rw [ez, e]; congr 2; omega, by omega⟩) (by decide) ⟨0, .u, rfl, by decide, by decide⟩ ?_ ?_)
    · rintro k ρ' hk ⟨z, c, rfl, h0, h1⟩
      refine ⟨_, tg_name, ?_⟩
      have hp : ((10 : Int) ^ 7) ^ k ≤ (10 ^ 7) ^ 3 := pow7 (by omega)
      have hs : ((10 : Int) ^ 7) ^ (k + 1) = (10 ^ 7) ^ k * 10 ^ 7 := Int.pow_succ _ _
      have h3 : z < 10 ^ 21 := Int.lt_of_lt_of_le h1 (Int.le_trans hp (by decide))
      have e7 : Ev K (fun b => b = pa) (tOp (rI CPow fun i j => .int (i ^ j.toNat)) (tC (.int 10)) (tC (.int 7))) ([.p, .d (.int z), .d (.int (k : Int))] : List Sl) (.int (10 ^ 7)) := ev_op ev_int ev_int (od_pow ⟨by decide, by decide, by decide⟩)
      refine s_setP (P := IntP fun y => 0 ≤ y ∧ y < (10 ^ 7) ^ (k + 1)) (evN_I (evN_i (A := fun y => y = z * 10 ^ 7) (ev_op (ev_var rfl) e7 (od_mulW (cmul (m := 70) (n := 24) (by omega) (by decide)))) rfl) (ev_nx rfl e7 (by decide) (by decide)) fun a c ha hc => ⟨?_, od_add⟩) ?_
      · subst ha
        rw [hs]
        have g1 : z + 1 ≤ (10 ^ 7) ^ k := h1
        have g2 : (z + 1) * 10 ^ 7 ≤ (10 ^ 7) ^ k * 10 ^ 7 := Int.mul_le_mul_of_nonneg_right g1 (by decide)
        omega
      · rintro d ⟨y, rfl, hy⟩
        exact ⟨y, .d (.int (k : Int)), rfl, hy⟩
    · rintro n ρ' hn ⟨z, c, rfl, h0, h1⟩
      have hp : ((10 : Int) ^ 7) ^ n ≤ (10 ^ 7) ^ 3 := pow7 hn
      exact s_ret (ev_var rfl) ⟨_, rfl, z, rfl, h0, Int.lt_of_lt_of_le h1 (Int.le_trans hp (by decide))⟩
theorem sc__law_ratio : FnScope ["_law_pool", "_law_bottom", "_law_top", "_law_way"] ["_law_pool"] (defScope (top 57)) := ⟨rfl, rfl, rfl, by decide +kernel, rfl, by decide +kernel, by decide +kernel⟩
theorem ok__law_ratio {f aN aO : Addr} {fd : FuncData} (T : Txt K mg aN aO)  (C__law_next : Cal P w K mg base CX0 1 "_law_next" ["_law_pool", "_law_base"] [] (spP K P_next)) (C__law_lowest : Cal P w K mg base CX0 1 "_law_lowest" ["_law_top", "_law_bottom"] [] (spF K R_lowest)) (C__law_far : Cal P w K mg base CX0 2 "_law_far" ["_law_pool"] [] (spP K P_far))  (F : FunD K "_law_ratio" "_law_ratio" (defArgs (top 57)) (defBody (top 57)) (defScope (top 57)) [] [] f fd) : FnOk P w K mg base CX0 3 f fd ["_law_pool"] (spP K P_ratio) := by
  refine ok_defP F sc__law_ratio (fun ds Pd h => ?_) (fun cdv A outer s H W hr => ⟨_, (pss_cons (ps_set (i := 1) sc__law_ratio.nd rfl (Or.inl rfl) (pe_ix ix_list (pe_lst (pa_cons pe_int (pa_cons pe_int (pa_cons pe_int (pa_cons pe_int (pa_cons pe_int (pa_cons pe_int (pa_cons pe_int (pa_cons pe_int pa_nil))))))))) (pe_cal C__law_next (hr.mono (by decide)) pass0 (pa_cons (pv 0) (pa_cons pe_int pa_nil))) (fun _ _ => rfl)))
      (pss_cons (ps_set (i := 2) sc__law_ratio.nd rfl (Or.inl rfl) (pe_op op_sub (pe_cal C__law_next (hr.mono (by decide)) pass0 (pa_cons (pv 0) (pa_cons pe_int pa_nil))) pe_int))
      (pss_cons (ps_set (i := 3) sc__law_ratio.nd rfl (Or.inl rfl) (pe_cal C__law_next (hr.mono (by decide)) pass0 (pa_cons (pv 0) (pa_cons pe_int pa_nil))))
      (pss_cons (ps_if (pt_cmpR op_eq (pv 3) pe_int (nomark _)) (pss_cons (ps_set (i := 2) sc__law_ratio.nd rfl (Or.inl rfl) (pe_op op_mulW (pe_cal C__law_far (hr.mono (by decide)) pass0 (pa_cons (pv 0) pa_nil)) (pe_ix ix_list (pe_lst (pa_cons pe_int (pa_cons (pe_un un_neg pe_int) pa_nil))) (pe_cal C__law_next (hr.mono (by decide)) pass0 (pa_cons (pv 0) (pa_cons pe_int pa_nil))) (fun _ _ => rfl))))
      (pss_one (ps_set (i := 1) sc__law_ratio.nd rfl (Or.inl rfl) (pe_op op_add pe_int (pe_cal C__law_next (hr.mono (by decide)) pass0 (pa_cons (pv 0) (pa_cons pe_int pa_nil))))))) pss_nil)
      (pss_cons (ps_if (pt_cmpR op_eq (pv 3) pe_int (nomark _)) (pss_one (ps_set (i := 2) sc__law_ratio.nd rfl (Or.inl rfl) pe_int)) pss_nil)
      (pss_one (ps_ret (pe_cal C__law_lowest (hr.mono (by decide)) pass0 (pa_cons (pv 2) (pa_cons (pv 1) pa_nil)))))))))), fun pa ds Pd h => ?_⟩)
  · obtain ⟨rfl, _⟩ := h
    rfl
  · obtain ⟨rfl, rfl⟩ := h
    refine s_seq (s_setP (P := IntP fun z => 1 ≤ z ∧ z ≤ 12) (evN_ixLP (EL.ev (el_lst (ag_cons ev_int (ag_cons ev_int (ag_cons ev_int (ag_cons ev_int (ag_cons ev_int (ag_cons ev_int (ag_cons ev_int (ag_cons ev_int ag_nil)))))))))) (ev_nxI rfl (by decide) (by decide)) fun a ha => ?_) ?_)
    · have : a = 0 ∨ a = 1 ∨ a = 2 ∨ a = 3 ∨ a = 4 ∨ a = 5 ∨ a = 6 ∨ a = 7 := by omega
      rcases this with rfl | rfl | rfl | rfl | rfl | rfl | rfl | rfl <;> exact ⟨_, rfl, _, rfl, by decide, by decide⟩
    rintro d ⟨b, rfl, hb⟩
    refine s_seq (s_setP (P := IntP fun z => z.natAbs < 2 ^ 71) (evN_I (ev_nxI rfl (by decide) (by decide)) (evN_i (A := fun z => z = 12) ev_int rfl) fun a c ha hc => ⟨by omega, od_sub⟩) ?_)
    rintro d ⟨t, rfl, ht⟩
    refine s_seq (s_setP (ev_nxI rfl (by decide) (by decide)) ?_)
    rintro d ⟨wy, rfl, _⟩
    have key : ∀ (b t : Int), 1 ≤ b → b ≤ 12 → t.natAbs < 2 ^ 71 → Dr (Rat.divInt t b) := fun b t h1 h2 h3 => by
      obtain ⟨c, c0, ec, c1⟩ := dvd_dr (b := b.toNat) (by omega) (by omega)
      have : (b : Int) = (b.toNat : Int) := by omega
      rw [this]
      refine On.of (by omega) c0 ec ?_
      have g : t.natAbs * c ≤ 2 ^ 71 * 27720 := Nat.mul_le_mul (by omega) c1
      exact Nat.lt_of_le_of_lt g (by decide)
    refine s_cut (fun ρ' => ∃ b t : Int, ρ' = [.p, .d (.int b), .d (.int t), .d (.int wy)] ∧ 1 ≤ b ∧ b ≤ 12 ∧ t.natAbs < 2 ^ 71) (s_if (te_test (ev_op (ev_var rfl) ev_int od_eqI)) (fun _ => ?_) fun _ => s_next ⟨_, rfl, b, t, rfl, hb.1, hb.2, ht⟩) ?_
    · refine s_seq (s_setP (P := IntP fun z => z.natAbs < 2 ^ 71) (evN_I (ev_far rfl) (evN_ixLP (P := IntP fun z => z = 1 ∨ z = -1) (EL.ev (el_lst (ag_cons ev_int (ag_cons (ev_neg ev_int) ag_nil)))) (ev_nxI rfl (by decide) (by decide)) fun a ha => ?_) fun a c ha hc => ⟨?_, od_mulW (cmul (m := 71) (n := 2) (by omega) (by omega))⟩) ?_)
      · have : a = 0 ∨ a = 1 := by omega
        rcases this with rfl | rfl
        · exact ⟨_, rfl, _, rfl, .inl rfl⟩
        · exact ⟨_, rfl, _, rfl, .inr rfl⟩
      · rcases hc with rfl | rfl <;> omega
      · rintro d ⟨t, rfl, ht⟩
        refine s_setP (ev_1nx rfl ev_int (by decide) (by decide)) ?_
        rintro d ⟨b, rfl, hb⟩
        exact ⟨_, rfl, b, t, rfl, hb.1, hb.2, ht⟩
    rintro ρ' ⟨b, t, rfl, h1, h2, h3⟩
    refine s_cut (fun ρ' => ∃ t : Int, ρ' = [.p, .d (.int b), .d (.int t), .d (.int wy)] ∧ t.natAbs < 2 ^ 71) (s_if (te_test (ev_op (ev_var rfl) ev_int od_eqI)) (fun _ => s_set ev_int ⟨_, rfl, 0, rfl, by decide⟩) fun _ => s_next ⟨_, rfl, t, rfl, h3⟩) ?_
    rintro ρ' ⟨t, rfl, h3⟩
    exact s_ret (ev_low (ev_var rfl) (ev_var rfl) (by omega) (lt_8999 (m := 5) (by omega) (by decide))) ⟨_, rfl, _, rfl, key b t h1 h2 h3⟩
end
end K57
/-! F13: rows and walls from the pool -/
namespace K57
open PySem PySem.Spec PyProof.Rows L2 PD M
theorem atI_last {α : Type} {l : List α} {x : α} (h : l[l.length - 1]? = some x) : atI l (-1) = some x := by
  have hl : 0 < l.length := by
    cases l with
    | nil => cases h
    | cons a l => exact Nat.succ_pos _
  unfold atI ixN
  rw [if_neg (by decide), if_pos (by omega)]
  have e : ((-1 : Int) + (l.length : Int)).toNat = l.length - 1 := by omega
  rw [Option.bind_some]
  have : ((-1 : Int) + (l.length : Int)).toNat = l.length - 1 := by omega
  rw [this]
  exact h
theorem le_pk (k : Nat) : 2 ^ 87 + k * 2 ^ 20 + 2 ^ 20 ≤ 2 ^ 87 + (k + 1) * 2 ^ 20 := by
  rw [Nat.add_mul, Nat.one_mul, Nat.add_assoc]
  exact Nat.le_refl _
theorem divInt_pos {a b : Int} (ha : 0 < a) (hb : 0 < b) : 0 < Rat.divInt a b := by
  rw [Rat.divInt_eq_div]
  rw [Rat.lt_div_iff (by exact_mod_cast hb), Rat.zero_mul]
  exact_mod_cast ha
/-- what is so of a row while it is made -/
structure RowG (row : List Ball) : Prop where
  w : ∀ b ∈ row, 0 < b.w ∧ b.w ≤ 1000
  nb : ∀ (k : Nat) (a b : Ball), row[k]? = some a → row[k + 1]? = some b → Nb a.th b.th
  d : RowDr row
theorem RowG.push {row : List Ball} {b : Ball} (h : RowG row) (hw : 0 < b.w ∧ b.w ≤ 1000) (hp : DrP b.p) (hs : Dr b.s) (hn : ∀ a, row[row.length - 1]? = some a → Nb a.th b.th) : RowG (row ++ [b]) := by
  refine ⟨fun c hc => ?_, fun k x y e1 e2 => ?_, fun c hc => ?_, fun c hc => ?_⟩
  · rcases List.mem_append.mp hc with hc | hc
    · exact h.w c hc
    · rw [List.mem_singleton.mp hc]; exact hw
  · have h2 := (List.getElem?_eq_some_iff.mp e2).1
    rw [List.length_append, List.length_singleton] at h2
    rw [List.getElem?_append_left (by omega)] at e1
    by_cases hk : k + 1 < row.length
    · rw [List.getElem?_append_left hk] at e2
      exact h.nb k x y e1 e2
    · have hk : k + 1 = row.length := by omega
      rw [List.getElem?_append_right (by omega), show k + 1 - row.length = 0 by omega] at e2
      cases e2
      refine hn x ?_
      rw [← hk]
      exact e1
  · rcases List.mem_append.mp hc with hc | hc
    · exact h.d.p c hc
    · rw [List.mem_singleton.mp hc]; exact hp
  · rcases List.mem_append.mp hc with hc | hc
    · exact h.d.s c hc
    · rw [List.mem_singleton.mp hc]; exact hs
section
variable {P : Program} {w : World} {K : PySem.W.Frag} {mg : Str → Option Value} {base : Heap}
theorem evN_intB {M : Addr → Prop} {ρ : List Sl} {ta : TE} {B : Bool → Prop} (h : EvN K M ta ρ (fun d => ∃ b, d = .bool b ∧ B b)) : EvN K M (tCB (fun xs H Q => (∃ i, xs = [.int i] ∧ Q (.int i) H) ∨ ∃ k, xs = [.bl k] ∧ Q (.int (if k then 1 else 0)) H) (tCons ta tNil)) ρ (IntP fun z => ∃ b, B b ∧ z = if b then 1 else 0) :=
  evN_cb (aN_one h) fun ds ⟨d, e, b, ed, hb⟩ => by
    subst e ed
    exact ⟨_, ⟨_, rfl, b, hb, rfl⟩, cb_intB⟩
theorem evN_B {M : Addr → Prop} {ρ : List Sl} {r : R2} {ta tb : TE} {A B : Int → Prop} {PB : Bool → Prop} (ha : EvN K M ta ρ (IntP A)) (hb : EvN K M tb ρ (IntP B)) (ho : ∀ a b, A a → B b → ∃ c, PB c ∧ OpD K r (.int a) (.int b) (.bool c)) : EvN K M (tOp r ta tb) ρ (fun d => ∃ b, d = .bool b ∧ PB b) :=
  evN_op ha hb fun a b ⟨x, ex, hx⟩ ⟨y, ey, hy⟩ => by
    subst ex ey
    obtain ⟨c, h1, h2⟩ := ho x y hx hy
    exact ⟨_, ⟨c, rfl, h1⟩, h2⟩
/-- one of two whole numbers -/
theorem evN_of2 {M : Addr → Prop} {ρ : List Sl} {ta tb tj : TE} {A B C J : Int → Prop} (ha : EvN K M ta ρ (IntP A)) (hb : EvN K M tb ρ (IntP B)) (hj : EvN K M tj ρ (IntP J)) (h : ∀ j a b, J j → A a → B b → (j = 0 ∧ C a) ∨ (j = 1 ∧ C b)) : EvN K M (tOp (rIxL K) (tLst (tCons ta (tCons tb tNil))) tj) ρ (IntP C) :=
  evN_ixLN (PA := fun ds => ∃ d e, ds = [d, e] ∧ IntP A d ∧ IntP B e) (evN_lst (elN_lst (aN_two ha hb) fun ds ⟨d, e, h, _⟩ => by rw [h]; simp)) hj fun xs j ⟨d, e, exs, ⟨a, ea, ha⟩, ⟨b, eb, hb⟩⟩ hj => by
    subst exs ea eb
    rcases h j a b hj ha hb with ⟨rfl, hc⟩ | ⟨rfl, hc⟩
    · exact ⟨_, rfl, _, rfl, hc⟩
    · exact ⟨_, rfl, _, rfl, hc⟩
theorem sc__law_row : FnScope ["_law_pool", "_law_most", "_law_many", "_law_place", "_law_alike", "_law_row_here", "_law_k", "_law_speed", "_law_weight", "_law_gap"] ["_law_pool", "_law_most"] (defScope (top 58)) := ⟨rfl, rfl, rfl, by decide +kernel, rfl, by decide +kernel, by decide +kernel⟩
theorem ok__law_row {f aN aO : Addr} {fd : FuncData} (T : Txt K mg aN aO)  (C__law_ratio : Cal P w K mg base CX0 3 "_law_ratio" ["_law_pool"] [] (spP K P_ratio)) (C__law_next : Cal P w K mg base CX0 1 "_law_next" ["_law_pool", "_law_base"] [] (spP K P_next)) (C__law_lowest : Cal P w K mg base CX0 1 "_law_lowest" ["_law_top", "_law_bottom"] [] (spF K R_lowest)) (C__law_less : Cal P w K mg base CX0 1 "_law_less" ["_law_one", "_law_other"] [] (spF K R_less)) (C__law_sum : Cal P w K mg base CX0 2 "_law_sum" ["_law_one", "_law_other"] [] (spF K R_plus))  (F : FunD K "_law_row" "_law_row" (defArgs (top 58)) (defBody (top 58)) (defScope (top 58)) [] [] f fd) : FnOk P w K mg base CX0 4 f fd ["_law_pool", "_law_most"] (spP K P_row) := by
  refine ok_defP F sc__law_row (fun ds Pd h => ?_) (fun cdv A outer s H W hr => ⟨_, (pss_cons (ps_set (i := 2) sc__law_row.nd rfl (Or.inl rfl) (pe_op op_add pe_int (pe_cal C__law_next (hr.mono (by decide)) pass0 (pa_cons (pv 0) (pa_cons (pv 1) pa_nil)))))
      (pss_cons (ps_set (i := 3) sc__law_row.nd rfl (Or.inl rfl) (pe_cal C__law_ratio (hr.mono (by decide)) pass0 (pa_cons (pv 0) pa_nil)))
      (pss_cons (ps_set (i := 4) sc__law_row.nd rfl (Or.inl rfl) (pe_ix ix_list (pe_lst (pa_cons pe_int (pa_cons (pe_op op_add pe_int (pe_cal C__law_next (hr.mono (by decide)) pass0 (pa_cons (pv 0) (pa_cons pe_int pa_nil)))) pa_nil))) (pe_callTy call_int1 (by rfl) T.f_int (by decide +kernel) (pa_cons (pe_cmpR op_eq (pe_cal C__law_next (hr.mono (by decide)) pass0 (pa_cons (pv 0) (pa_cons pe_int pa_nil))) pe_int (nomark _)) pa_nil)) (fun _ _ => rfl)))
      (pss_cons (ps_set (i := 5) sc__law_row.nd rfl (Or.inl rfl) (pe_lst pa_nil))
      (pss_cons (ps_for (passes_of rfl) rfl (pi_range1 (by rfl) T.f_range (pa_cons (pv 2) pa_nil)) (pg_name (i := 6) sc__law_row.nd rfl (Or.inl rfl)) (pss_cons (ps_set (i := 7) sc__law_row.nd rfl (Or.inl rfl) (pe_cal C__law_ratio (hr.mono (by decide)) pass0 (pa_cons (pv 0) pa_nil)))
      (pss_cons (ps_set (i := 8) sc__law_row.nd rfl (Or.inl rfl) (pe_ix ix_list (pe_lst (pa_cons (pv 4) (pa_cons (pe_ix ix_list (pe_lst (pa_cons (pe_op op_add pe_int (pe_cal C__law_next (hr.mono (by decide)) pass0 (pa_cons (pv 0) (pa_cons pe_int pa_nil)))) (pa_cons (pe_op op_add pe_int (pe_cal C__law_next (hr.mono (by decide)) pass0 (pa_cons (pv 0) (pa_cons pe_int pa_nil)))) pa_nil))) (pe_cal C__law_next (hr.mono (by decide)) pass0 (pa_cons (pv 0) (pa_cons pe_int pa_nil))) (fun _ _ => rfl)) pa_nil))) (pe_callTy call_int1 (by rfl) T.f_int (by decide +kernel) (pa_cons (pe_cmpR op_eq (pv 4) pe_int (nomark _)) pa_nil)) (fun _ _ => rfl)))
      (pss_cons (ps_set (i := 9) sc__law_row.nd rfl (Or.inl rfl) (pe_cal C__law_lowest (hr.mono (by decide)) pass0 (pa_cons (pe_op op_add pe_int (pe_cal C__law_next (hr.mono (by decide)) pass0 (pa_cons (pv 0) (pa_cons pe_int pa_nil)))) (pa_cons (pe_ix ix_list (pe_lst (pa_cons pe_int (pa_cons pe_int (pa_cons pe_int pa_nil)))) (pe_cal C__law_next (hr.mono (by decide)) pass0 (pa_cons (pv 0) (pa_cons pe_int pa_nil))) (fun _ _ => rfl)) pa_nil))))
      (pss_cons (ps_if (PW.pt (pw_and (pt_cmpR op_gt (pv 6) pe_int (nomark _)) (pw_and (pt_cmpR op_eq (pe_cal C__law_next (hr.mono (by decide)) pass0 (pa_cons (pv 0) (pa_cons pe_int pa_nil))) pe_int (nomark _)) (pw_and1 (pt_val (pe_cal C__law_less (hr.mono (by decide)) pass0 (pa_cons (pe_ix ix_tup (pe_ix ix_list (pv 5) (pe_un un_neg pe_int) (fun _ _ => rfl)) pe_int (fun _ _ => rfl)) (pa_cons (pv 7) pa_nil)))))))) (pss_one (ps_set (i := 9) sc__law_row.nd rfl (Or.inl rfl) (pe_tup (pa_cons pe_int (pa_cons pe_int pa_nil))))) pss_nil)
      (pss_cons (ps_if (pt_cmpR op_gt (pv 6) pe_int (nomark _)) (pss_one (ps_set (i := 3) sc__law_row.nd rfl (Or.inl rfl) (pe_cal C__law_sum (hr.mono (by decide)) pass0 (pa_cons (pv 3) (pa_cons (pv 9) pa_nil))))) pss_nil)
      (pss_one (ps_expr (pe_bm PySem.F.plainAttrs_list PySem.F.slot_list_append PySem.F.type_list_append mt_append (pv 5) (pa_cons (pe_tup (pa_cons (pv 3) (pa_cons (pv 7) (pa_cons (pv 8) pa_nil)))) pa_nil))))))))))
      (pss_one (ps_ret (pe_callTy call_tuple_of (by rfl) T.f_tuple (by decide +kernel) (pa_cons (pv 5) pa_nil))))))))), fun pa ds Pd h => ?_⟩)
  · obtain ⟨rfl, _⟩ := h
    rfl
  · obtain ⟨rfl, rfl⟩ := h
    refine s_seq (s_setP (ev_1nx rfl (ev_var rfl) (by decide) (by decide)) ?_)
    rintro d ⟨n, rfl, hn⟩
    obtain ⟨m, rfl⟩ : ∃ m : Nat, n = (m : Int) := ⟨n.toNat, by omega⟩
    refine s_seq (s_setP (ev_rat rfl) ?_)
    rintro d ⟨p0, rfl, hp0⟩
    refine s_seq (s_setP (evN_of2 (C := fun z => 0 ≤ z ∧ z ≤ 9) (evN_i (A := fun z => z = 0) ev_int rfl) (ev_1nx rfl ev_int (by decide) (by decide)) (evN_intB (B := fun _ => True) (evN_B (ev_nxI rfl (by decide) (by decide)) (evN_i (A := fun _ => True) ev_int trivial) fun a b _ _ => ⟨_, trivial, od_eqI⟩)) fun j a b ⟨c, _, ej⟩ ha hb => ?_) ?_)
    · cases c with
      | true => exact .inr ⟨ej, by omega⟩
      | false => exact .inl ⟨ej, by omega⟩
    rintro d ⟨al, rfl, hal⟩
    refine s_seq (s_setL (el_lst ag_nil) ?_)
    refine s_seq (s_forR (n := m) (J := fun k ρ' => ∃ (p : Rat) (row : List Ball) (c6 c7 c8 c9 : Sl), ρ' = [.p, .d (.int 5), .d (.int (m : Int)), .d (encR p), .d (.int al), .l (row.map encB), c6, c7, c8, c9] ∧ row.length = k ∧ RowG row ∧ (∀ b, row[row.length - 1]? = some b → b.p = p) ∧ On 27720 (2 ^ 87 + k * 2 ^ 20) p) (ag_cons (ev_var rfl) ag_nil) (by omega) ⟨p0, [], .u, .u, .u, .u, rfl, rfl, ⟨fun b hb => (nomatch hb), (fun k a b e _ => by cases e), ⟨fun b hb => (nomatch hb), fun b hb => (nomatch hb)⟩⟩, (fun b e => by cases e), hp0.mono (by omega)⟩ ?_ ?_)
    · rintro k ρ' hk ⟨p, row, c6, c7, c8, c9, rfl, hlen, hG, hlast, hp⟩
      refine ⟨_, tg_name, ?_⟩
      refine s_seq (s_setP (ev_rat rfl) ?_)
      rintro d ⟨s, rfl, hs⟩
      refine s_seq (s_setP (evN_of2 (C := fun z => 1 ≤ z ∧ z ≤ 1000) (evN_i (A := fun z => z = al) (ev_var rfl) rfl) (evN_of2 (C := fun z => 1 ≤ z ∧ z ≤ 1000) (ev_1nx rfl ev_int (by decide) (by decide)) (ev_1nx rfl ev_int (by decide) (by decide)) (ev_nxI rfl (by decide) (by decide)) fun j a b hj ha hb => ?_) (evN_intB (B := fun c => c = decide (al = 0)) (evN_B (evN_i (A := fun z => z = al) (ev_var rfl) rfl) (evN_i (A := fun z => z = 0) ev_int rfl) fun a b ha hb => ⟨_, by rw [ha, hb], od_eqI⟩)) fun j a b ⟨c, ec, ej⟩ ha hb => ?_) ?_)
      · have : j = 0 ∨ j = 1 := by omega
        rcases this with h | h
        · exact .inl ⟨h, by omega⟩
        · exact .inr ⟨h, by omega⟩
      · cases c with
        | true => exact .inr ⟨ej, hb⟩
        | false =>
          have := of_decide_eq_false ec.symm
          exact .inl ⟨ej, by omega⟩
      rintro d ⟨wt, rfl, hw⟩
      obtain ⟨wn, rfl⟩ : ∃ m : Nat, wt = (m : Int) := ⟨wt.toNat, by omega⟩
      refine s_seq (s_setP (P := fun d => ∃ g, d = encR g ∧ 0 < g ∧ On 27720 (2 ^ 20) g) (evN_fn (aN_two (ev_1nx rfl ev_int (by decide) (by decide)) (evN_ixLP (P := IntP fun z => 1 ≤ z ∧ z ≤ 3) (EL.ev (el_lst (ag_cons ev_int (ag_cons ev_int (ag_cons ev_int ag_nil))))) (ev_nxI rfl (by decide) (by decide)) fun a ha => ?_)) fun ds ⟨d, e, eds, ⟨a, ea, ha⟩, ⟨b, eb, hb⟩⟩ => ?_) ?_)
      · have : a = 0 ∨ a = 1 ∨ a = 2 := by omega
        rcases this with rfl | rfl | rfl <;> exact ⟨_, rfl, _, rfl, by decide, by decide⟩
      · subst eds ea eb
        refine ⟨_, ⟨a, b, rfl, by omega, lt_8999 (m := 5) (by omega) (by decide), rfl⟩, _, rfl, divInt_pos (by omega) (by omega), ?_⟩
        obtain ⟨c, c0, ec, c1⟩ := dvd_dr (b := b.toNat) (by omega) (by omega)
        have : (b : Int) = (b.toNat : Int) := by omega
        rw [this]
        refine On.of (by omega) c0 ec ?_
        have g : a.natAbs * c ≤ 12 * 27720 := Nat.mul_le_mul (by omega) c1
        exact Nat.lt_of_le_of_lt g (by decide)
      rintro d ⟨g0, rfl, g0p, g0o⟩
      refine s_cut (fun ρ' => ∃ g, ρ' = [.p, .d (.int 5), .d (.int (m : Int)), .d (encR p), .d (.int al), .l (row.map encB), .d (.int (k : Int)), .d (encR s), .d (.int (wn : Int)), .d (encR g)] ∧ On 27720 (2 ^ 20) g ∧ (0 < g ∨ (g = 0 ∧ ∀ b, row[row.length - 1]? = some b → b.s < s))) (s_ifP (PB := fun c => c = true → ∀ b, row[row.length - 1]? = some b → b.s < s) (tN_and (A := fun c => c = true → 0 < k) (B := fun c => c = true → ∀ b, row[row.length - 1]? = some b → b.s < s) ((te_test (ev_op (ev_var rfl) ev_int od_gt)).imp fun c ec h => ?_) (fun hk0 => tN_and (A := fun _ => True) (B := fun c => c = true → ∀ b, row[row.length - 1]? = some b → b.s < s) (tN_I (ev_nxI rfl (by decide) (by decide)) (evN_i (A := fun _ => True) ev_int trivial) fun a b _ _ => ⟨_, trivial, od_eqI⟩) (fun _ => ?_) (fun _ h => by cases h) fun _ c hc => hc) (fun _ h => by cases h) fun _ c hc => hc) fun c hc => ⟨fun e => ?_, fun e => s_next ?_⟩) ?_
      · subst ec
        have := of_decide_eq_true h
        omega
      · have hk0 := hk0 rfl
        have el : row[row.length - 1]? = some (row[row.length - 1]'(by omega)) := List.getElem?_eq_getElem (by omega)
        have el2 : (row.map encB)[(row.map encB).length - 1]? = some (encB (row[row.length - 1]'(by omega))) := by
          rw [List.length_map]
          exact get_map el
        refine (te_val (ev_less (ev_sb (ev_ixO rfl (ev_neg ev_int) (atI_last el2)) ev_int) (ev_var rfl) ((hG.d.s _ (List.getElem_mem _)).sm.mono (by decide)) (hs.sm.mono (by decide)))).imp fun c ec h b hb => ?_
        subst ec
        rw [el] at hb
        cases hb
        exact of_decide_eq_true h
      · exact s_set (ev_tup (ag_cons ev_int (ag_cons ev_int ag_nil))) ⟨_, rfl, 0, rfl, On.sub0 (by decide), .inr ⟨rfl, hc e⟩⟩
      · exact ⟨_, rfl, g0, rfl, g0o, .inl g0p⟩
      rintro ρ' ⟨g, rfl, go, hg⟩
      have hp' : On 27720 (2 ^ 87 + k * 2 ^ 20 + 2 ^ 20) (p + g) := hp.add (by decide) go
      have b88 : 2 ^ 87 + k * 2 ^ 20 + 2 ^ 20 ≤ 2 ^ 88 := by omega
      refine s_cut (fun ρ' => ∃ p', ρ' = [.p, .d (.int 5), .d (.int (m : Int)), .d (encR p'), .d (.int al), .l (row.map encB), .d (.int (k : Int)), .d (encR s), .d (.int (wn : Int)), .d (encR g)] ∧ On 27720 (2 ^ 87 + k * 2 ^ 20 + 2 ^ 20) p' ∧ (k = 0 ∨ p' = p + g)) (s_if (te_test (ev_op (ev_var rfl) ev_int od_gt)) (fun e => ?_) fun e => s_next ?_) ?_
      · refine s_set (ev_plus (ev_var rfl) (ev_var rfl) ?_ ?_) ⟨_, rfl, p + g, rfl, hp', .inr rfl⟩
        · exact (On.sm (hp.mono (B' := 2 ^ 88) (by omega)) (by decide) (by decide)).mono (by decide)
        · exact (On.sm go (by decide) (by decide)).mono (by decide)
      · have := of_decide_eq_false e
        exact ⟨_, rfl, p, rfl, hp.mono (by omega), .inl (by omega)⟩
      rintro ρ' ⟨p', rfl, po, hp2⟩
      refine s_append rfl (d := encB ⟨p', s, wn⟩) (ev_tup (ag_cons (ev_var rfl) (ag_cons (ev_var rfl) (ag_cons (ev_var rfl) ag_nil)))) (by rw [List.length_map]; omega) ⟨p', row ++ [⟨p', s, wn⟩], .d (.int (k : Int)), .d (encR s), .d (.int (wn : Int)), .d (encR g), ?_, by rw [List.length_append, hlen]; rfl, hG.push (show 0 < wn ∧ wn ≤ 1000 by omega) (po.mono b88) hs fun a ea => ?_, fun b hb => ?_, po.mono (le_pk k)⟩
      · rw [List.map_append]
        rfl
      · have hk0 : k ≠ 0 := fun z => by
          subst z
          rw [List.length_eq_zero_iff.mp hlen] at ea
          cases ea
        rcases hp2 with z | rfl
        · exact absurd z hk0
        · have ep := hlast a ea
          rcases hg with hg | ⟨rfl, hg⟩
          · left
            show a.p < p + g
            rw [ep]
            grind
          · right
            refine ⟨?_, hg a ea⟩
            show a.p = p + 0
            rw [ep]
            grind
      · rw [List.length_append, List.length_singleton, Nat.add_sub_cancel, List.getElem?_append_right (Nat.le_refl _), Nat.sub_self] at hb
        cases hb
        rfl
    · rintro ρ' ⟨p, row, c6, c7, c8, c9, rfl, hlen, hG, hlast, hp⟩
      refine s_freeze (i := 5) rfl (s_ret (ev_cb (ag_cons (ev_var rfl) ag_nil) cb_tupleL) ⟨_, rfl, row, rfl, ⟨by omega, by omega, hG.w, hG.nb, fun a b e => (nomatch e), fun a b e => (nomatch e), fun a b e => (nomatch e)⟩, hG.d⟩)
theorem side_enc {sd : Int} (h : sd = 1 ∨ sd = -1) : PyData.tuple [.int sd, .int 1] = encR (sd : Rat) := by
  rcases h with rfl | rfl <;> rfl
theorem side_enc' {sd : Int} (h : sd = 1 ∨ sd = -1) : PyData.tuple [.int (-sd), .int 1] = encR (-(sd : Rat)) := by
  rcases h with rfl | rfl <;> rfl
theorem side_sm {sd : Int} (h : sd = 1 ∨ sd = -1) : Sm 5 (sd : Rat) ∧ Sm 5 (-(sd : Rat)) := by
  rcases h with rfl | rfl <;> refine ⟨⟨?_, ?_⟩, ⟨?_, ?_⟩⟩ <;> decide
theorem sc__law_bound : FnScope ["_law_pool", "_law_ball", "_law_side", "_law_way", "_law_speed", "_law_gap"] ["_law_pool", "_law_ball", "_law_side"] (defScope (top 62)) := ⟨rfl, rfl, rfl, by decide +kernel, rfl, by decide +kernel, by decide +kernel⟩
theorem ok__law_bound {f aN aO : Addr} {fd : FuncData} (T : Txt K mg aN aO)  (C__law_next : Cal P w K mg base CX0 1 "_law_next" ["_law_pool", "_law_base"] [] (spP K P_next)) (C__law_lowest : Cal P w K mg base CX0 1 "_law_lowest" ["_law_top", "_law_bottom"] [] (spF K R_lowest)) (C__law_sum : Cal P w K mg base CX0 2 "_law_sum" ["_law_one", "_law_other"] [] (spF K R_plus)) (C__law_ratio : Cal P w K mg base CX0 3 "_law_ratio" ["_law_pool"] [] (spP K P_ratio)) (C__law_less : Cal P w K mg base CX0 1 "_law_less" ["_law_one", "_law_other"] [] (spF K R_less)) (C__law_product : Cal P w K mg base CX0 2 "_law_product" ["_law_one", "_law_other"] [] (spF K R_times))  (F : FunD K "_law_bound" "_law_bound" (defArgs (top 62)) (defBody (top 62)) (defScope (top 62)) [] [] f fd) : FnOk P w K mg base CX0 4 f fd ["_law_pool", "_law_ball", "_law_side"] (spP K P_bound) := by
  refine ok_defP F sc__law_bound (fun ds Pd h => ?_) (fun cdv A outer s H W hr => ⟨_, (pss_cons (ps_set (i := 3) sc__law_bound.nd rfl (Or.inl rfl) (pe_cal C__law_next (hr.mono (by decide)) pass0 (pa_cons (pv 0) (pa_cons pe_int pa_nil))))
      (pss_cons (ps_if (pt_cmpR op_eq (pv 3) pe_int (nomark _)) (pss_one (ps_ret pe_non)) pss_nil)
      (pss_cons (ps_set (i := 4) sc__law_bound.nd rfl (Or.inl rfl) (pe_ix ix_list (pe_lst (pa_cons (pe_tup (pa_cons pe_int (pa_cons pe_int pa_nil))) (pa_cons (pe_cal C__law_ratio (hr.mono (by decide)) pass0 (pa_cons (pv 0) pa_nil)) (pa_cons (pe_ix ix_tup (pv 1) pe_int (fun _ _ => rfl)) pa_nil)))) (pe_cal C__law_next (hr.mono (by decide)) pass0 (pa_cons (pv 0) (pa_cons pe_int pa_nil))) (fun _ _ => rfl)))
      (pss_cons (ps_set (i := 5) sc__law_bound.nd rfl (Or.inl rfl) (pe_cal C__law_lowest (hr.mono (by decide)) pass0 (pa_cons (pe_op op_add pe_int (pe_cal C__law_next (hr.mono (by decide)) pass0 (pa_cons (pv 0) (pa_cons pe_int pa_nil)))) (pa_cons (pe_op op_add pe_int (pe_cal C__law_next (hr.mono (by decide)) pass0 (pa_cons (pv 0) (pa_cons pe_int pa_nil)))) pa_nil))))
      (pss_cons (ps_if (PW.pt (pw_and (pt_cmpR op_eq (pv 3) pe_int (nomark _)) (pw_and1 (pt_not (pt_val (pe_cal C__law_less (hr.mono (by decide)) pass0 (pa_cons (pe_cal C__law_product (hr.mono (by decide)) pass0 (pa_cons (pe_ix ix_tup (pv 1) pe_int (fun _ _ => rfl)) (pa_cons (pe_tup (pa_cons (pv 2) (pa_cons pe_int pa_nil))) pa_nil))) (pa_cons (pe_cal C__law_product (hr.mono (by decide)) pass0 (pa_cons (pv 4) (pa_cons (pe_tup (pa_cons (pv 2) (pa_cons pe_int pa_nil))) pa_nil))) pa_nil)))))))) (pss_one (ps_set (i := 5) sc__law_bound.nd rfl (Or.inl rfl) (pe_tup (pa_cons pe_int (pa_cons pe_int pa_nil))))) pss_nil)
      (pss_one (ps_ret (pe_tup (pa_cons (pe_cal C__law_sum (hr.mono (by decide)) pass0 (pa_cons (pe_ix ix_tup (pv 1) pe_int (fun _ _ => rfl)) (pa_cons (pe_cal C__law_product (hr.mono (by decide)) pass0 (pa_cons (pv 5) (pa_cons (pe_tup (pa_cons (pe_un un_neg (pv 2)) (pa_cons pe_int pa_nil))) pa_nil))) pa_nil))) (pa_cons (pv 4) pa_nil)))))))))), fun pa ds Pd h => ?_⟩)
  · obtain ⟨b, sd, rfl, _⟩ := h
    rfl
  · obtain ⟨b, sd, rfl, hsd, hbp, hbs, rfl⟩ := h
    obtain ⟨sm1, sm2⟩ := side_sm hsd
    have e1 : ∀ {M : Addr → Prop} {ρ : List Sl}, ρ[2]? = some (.d (.int sd)) → Ev K M (tTup (tCons (tVar 2) (tCons (tC (.int 1)) tNil))) ρ (encR (sd : Rat)) := fun h => (ev_tup (ag_cons (ev_var h) (ag_cons ev_int ag_nil))).eq (side_enc hsd)
    have e2 : ∀ {M : Addr → Prop} {ρ : List Sl}, ρ[2]? = some (.d (.int sd)) → Ev K M (tTup (tCons (tUn (rU fun i => .int (-i)) (tVar 2)) (tCons (tC (.int 1)) tNil))) ρ (encR (-(sd : Rat))) := fun h => (ev_tup (ag_cons (ev_neg (ev_var h)) (ag_cons ev_int ag_nil))).eq (side_enc' hsd)
    refine s_seq (s_setP (ev_nxI rfl (by decide) (by decide)) ?_)
    rintro d ⟨wy, rfl, _⟩
    refine s_seq (s_if (te_test (ev_op (ev_var rfl) ev_int od_eqI)) (fun _ => s_ret ev_non ⟨_, rfl, none, rfl, ⟨fun a e => (nomatch e), fun a e => (nomatch e)⟩, fun a e => (nomatch e)⟩) fun _ => s_next ?_)
    refine s_seq (s_setP (P := IsDr) (evN_ixLN (PA := fun ds => ∃ a b c, ds = [a, b, c] ∧ IsDr a ∧ IsDr b ∧ IsDr c) (evN_lst (elN_lst (aN_cons ((ev_tup (ag_cons ev_int (ag_cons ev_int ag_nil))).imp (P' := IsDr) fun d e => ⟨0, e, On.sub0 (by decide)⟩) (aN_two (ev_rat rfl) ((ev_sb (b := b) (ev_var rfl) ev_int).imp (P' := IsDr) fun d e => ⟨b.s, e, hbs⟩)) fun d ds hd ⟨x, y, e, hx, hy⟩ => ⟨d, x, y, by rw [e], hd, hx, hy⟩) fun ds ⟨a, b, c, h, _⟩ => by rw [h]; simp)) (ev_nxI rfl (by decide) (by decide)) fun xs j ⟨x, y, z, e, hx, hy, hz⟩ hj => ?_) ?_)
    · subst e
      have : j = 0 ∨ j = 1 ∨ j = 2 := by omega
      rcases this with rfl | rfl | rfl
      · exact ⟨_, rfl, hx⟩
      · exact ⟨_, rfl, hy⟩
      · exact ⟨_, rfl, hz⟩
    rintro d ⟨s, rfl, hs⟩
    refine s_seq (s_setP (P := fun d => ∃ g, d = encR g ∧ 0 < g ∧ On 27720 (2 ^ 20) g) (evN_fn (aN_two (ev_1nx rfl ev_int (by decide) (by decide)) (ev_1nx rfl ev_int (by decide) (by decide))) fun ds ⟨d, e, eds, ⟨a, ea, ha⟩, ⟨b, eb, hb⟩⟩ => ?_) ?_)
    · subst eds ea eb
      refine ⟨_, ⟨a, b, rfl, by omega, lt_8999 (m := 5) (by omega) (by decide), rfl⟩, _, rfl, divInt_pos (by omega) (by omega), ?_⟩
      obtain ⟨c, c0, ec, c1⟩ := dvd_dr (b := b.toNat) (by omega) (by omega)
      have : (b : Int) = (b.toNat : Int) := by omega
      rw [this]
      refine On.of (by omega) c0 ec ?_
      have g : a.natAbs * c ≤ 12 * 27720 := Nat.mul_le_mul (by omega) c1
      exact Nat.lt_of_le_of_lt g (by decide)
    rintro d ⟨g0, rfl, g0p, g0o⟩
    have hps : ∀ {x : Rat}, Dr x → Ok (x * (sd : Rat)) := fun h => (h.sm.mul sm1).mono (by decide)
    refine s_cut (fun ρ' => ∃ g, ρ' = [.p, .d (encB b), .d (.int sd), .d (.int wy), .d (encR s), .d (encR g)] ∧ On 27720 (2 ^ 20) g ∧ (0 < g ∨ (g = 0 ∧ ¬ b.s * (sd : Rat) < s * (sd : Rat)))) (s_ifP (PB := fun c => c = true → ¬ b.s * (sd : Rat) < s * (sd : Rat)) (tN_and (A := fun _ => True) (B := fun c => c = true → ¬ b.s * (sd : Rat) < s * (sd : Rat)) ((te_test (ev_op (ev_var rfl) ev_int od_eqI)).imp fun _ _ => trivial) (fun _ => (te_not (te_val (ev_less (ev_times (ev_sb (b := b) (ev_var rfl) ev_int) (e1 rfl) (hbs.sm.mono (by decide)) (sm1.mono (by decide))) (ev_times (ev_var rfl) (e1 rfl) (hs.sm.mono (by decide)) (sm1.mono (by decide))) (hps hbs) (hps hs)))).imp fun c ec h => ?_) (fun _ h => by cases h) fun _ c hc => hc) fun c hc => ⟨fun e => s_set (ev_tup (ag_cons ev_int (ag_cons ev_int ag_nil))) ⟨_, rfl, 0, rfl, On.sub0 (by decide), .inr ⟨rfl, hc e⟩⟩, fun e => s_next ⟨_, rfl, g0, rfl, g0o, .inl g0p⟩⟩) ?_
    · subst ec
      simpa using h
    rintro ρ' ⟨g, rfl, go, hg⟩
    have gs : Sm 20 g := On.sm go (by decide) (by decide)
    refine s_ret (ev_tup (ag_cons (ev_plus (ev_pl (a := b.th) (ev_var rfl) ev_int) (ev_times (ev_var rfl) (e2 rfl) (gs.mono (by decide)) (sm2.mono (by decide))) (hbp.sm.mono (by decide)) ((gs.mul sm2).mono (by decide))) (ag_cons (ev_var rfl) ag_nil))) ⟨_, rfl, some (b.p + g * -(sd : Rat), s), rfl, ⟨fun a e => ?_, fun a e => ?_⟩, fun a e => ⟨fun h1 => ?_, fun h1 => ?_⟩⟩
    · cases e
      have g2 : On 27720 (2 ^ 20) (g * -(sd : Rat)) := by
        rcases hsd with rfl | rfl
        · have : g * -((1 : Int) : Rat) = -g := by grind
          rw [this]
          exact go.neg
        · have : g * -((-1 : Int) : Rat) = g := by grind
          rw [this]
          exact go
      exact (hbp.add (by decide) g2).mono (by decide)
    · cases e
      exact hs
    · cases e
      subst h1
      rcases hg with hg | ⟨rfl, hg⟩
      · left
        show b.p + g * -((1 : Int) : Rat) < b.p
        have : b.p + g * -((1 : Int) : Rat) = b.p - g := by grind
        rw [this]
        grind
      · right
        refine ⟨?_, ?_⟩
        · show b.p + 0 * -((1 : Int) : Rat) = b.p
          grind
        · show s ≤ b.s
          have h2 : ((1 : Int) : Rat) = 1 := rfl
          rw [h2] at hg
          grind
    · cases e
      subst h1
      rcases hg with hg | ⟨rfl, hg⟩
      · left
        show b.p < b.p + g * -((-1 : Int) : Rat)
        have : b.p + g * -((-1 : Int) : Rat) = b.p + g := by grind
        rw [this]
        grind
      · right
        refine ⟨?_, ?_⟩
        · show b.p = b.p + 0 * -((-1 : Int) : Rat)
          grind
        · show b.s ≤ s
          have h2 : ((-1 : Int) : Rat) = -1 := rfl
          rw [h2] at hg
          grind
theorem ev_bound {M : Addr → Prop} {W : XK} {ρ : List Sl} {ta tb : TE} {i : Nat} {b : Ball} {sd : Int} (e : ρ[i]? = some .p) (ha : Ev K M ta ρ (encB b)) (hb : Ev K M tb ρ (.int sd)) (hsd : sd = 1 ∨ sd = -1) (hp : DrP b.p) (hs : Dr b.s) :
    EvN K M (tCall (spP K P_bound) [] W (tCons (tVar i) (tCons ta (tCons tb tNil)))) ρ (fun d => ∃ wl : Wl, d = encW wl ∧ WlDr wl ∧ ∀ a, wl = some a → (sd = 1 → NbW a b.th) ∧ (sd = -1 → NbW b.th a)) :=
  evN_pool e (ag_cons ha (ag_cons hb ag_nil)) fun ds h => by
    subst h
    exact ⟨_, ⟨b, sd, rfl, hsd, hp, hs, rfl⟩, fun d h => h⟩
theorem isNone_encW (a : Wl) : isNone (encW a) = a.isNone := by cases a <;> rfl
theorem sc__law_bounds : FnScope ["_law_pool", "_law_row_here", "_law_low", "_law_high"] ["_law_pool", "_law_row_here"] (defScope (top 63)) := ⟨rfl, rfl, rfl, by decide +kernel, rfl, by decide +kernel, by decide +kernel⟩
theorem ok__law_bounds {f aN aO : Addr} {fd : FuncData} (T : Txt K mg aN aO)  (C__law_bound : Cal P w K mg base CX0 4 "_law_bound" ["_law_pool", "_law_ball", "_law_side"] [] (spP K P_bound)) (C__law_less : Cal P w K mg base CX0 1 "_law_less" ["_law_one", "_law_other"] [] (spF K R_less))  (F : FunD K "_law_bounds" "_law_bounds" (defArgs (top 63)) (defBody (top 63)) (defScope (top 63)) [] [] f fd) : FnOk P w K mg base CX0 5 f fd ["_law_pool", "_law_row_here"] (spP K P_bounds) := by
  refine ok_defP F sc__law_bounds (fun ds Pd h => ?_) (fun cdv A outer s H W hr => ⟨_, (pss_cons (ps_set (i := 2) sc__law_bounds.nd rfl (Or.inl rfl) (pe_cal C__law_bound (hr.mono (by decide)) pass0 (pa_cons (pv 0) (pa_cons (pe_ix ix_tup (pv 1) pe_int (fun _ _ => rfl)) (pa_cons pe_int pa_nil)))))
      (pss_cons (ps_set (i := 3) sc__law_bounds.nd rfl (Or.inl rfl) (pe_cal C__law_bound (hr.mono (by decide)) pass0 (pa_cons (pv 0) (pa_cons (pe_ix ix_tup (pv 1) (pe_un un_neg pe_int) (fun _ _ => rfl)) (pa_cons (pe_un un_neg pe_int) pa_nil)))))
      (pss_cons (ps_if (PW.pt (pw_and (pt_cmpR op_notN (pv 2) pe_non (nomark _)) (pw_and (pt_cmpR op_notN (pv 3) pe_non (nomark _)) (pw_and1 (pt_not (pt_val (pe_cal C__law_less (hr.mono (by decide)) pass0 (pa_cons (pe_ix ix_tup (pv 2) pe_int (fun _ _ => rfl)) (pa_cons (pe_ix ix_tup (pv 3) pe_int (fun _ _ => rfl)) pa_nil))))))))) (pss_one (ps_ret (pe_tup (pa_cons (pv 2) (pa_cons pe_non pa_nil))))) pss_nil)
      (pss_one (ps_ret (pe_tup (pa_cons (pv 2) (pa_cons (pv 3) pa_nil)))))))), fun pa ds Pd h => ?_⟩)
  · obtain ⟨row, rfl, _⟩ := h
    rfl
  · obtain ⟨row, rfl, hi, hd, rfl⟩ := h
    have hne := hi.ne
    have e0 : row[0]? = some (row[0]'hne) := List.getElem?_eq_getElem hne
    have e1 : row[row.length - 1]? = some (row[row.length - 1]'(by omega)) := List.getElem?_eq_getElem (by omega)
    have e2 : (row.map encB)[(row.map encB).length - 1]? = some (encB (row[row.length - 1]'(by omega))) := by
      rw [List.length_map]
      exact get_map e1
    refine s_seq (s_setP (ev_bound rfl (ev_op (ev_var rfl) ev_int (od_ixT (atI_nat (j := 0) (get_map e0)))) ev_int (.inl rfl) (hd.p _ (List.getElem_mem _)) (hd.s _ (List.getElem_mem _))) ?_)
    rintro d ⟨lo, rfl, lod, hlo⟩
    refine s_seq (s_setP (ev_bound rfl (ev_op (ev_var rfl) (ev_neg ev_int) (od_ixT (atI_last e2))) (ev_neg ev_int) (.inr rfl) (hd.p _ (List.getElem_mem _)) (hd.s _ (List.getElem_mem _))) ?_)
    rintro d ⟨hi', rfl, hid, hhi⟩
    have hlo1 : ∀ (a : Th) (b : Ball), lo = some a → row[0]? = some b → NbW a b.th := fun a b e eb => by
      rw [e0] at eb
      cases eb
      exact (hlo a e).1 rfl
    have hhi1 : ∀ (a : Th) (b : Ball), hi' = some a → row[row.length - 1]? = some b → NbW b.th a := fun a b e eb => by
      rw [e1] at eb
      cases eb
      exact (hhi a e).2 rfl
    refine s_seq (s_ifP (PB := fun c => c = false → ∀ a b, lo = some a → hi' = some b → a.1 < b.1) (tN_and (A := fun c => c = !lo.isNone) (B := fun c => c = false → ∀ a b, lo = some a → hi' = some b → a.1 < b.1) ((te_test (ev_op (ev_var rfl) ev_non od_notN)).imp fun c ec => by rw [ec, isNone_encW]) (fun h1 => tN_and (A := fun c => c = !hi'.isNone) (B := fun c => c = false → ∀ a b, lo = some a → hi' = some b → a.1 < b.1) ((te_test (ev_op (ev_var rfl) ev_non od_notN)).imp fun c ec => by rw [ec, isNone_encW]) (fun h2 => ?_) (fun h e a b e1 e2 => by rw [e2] at h; cases h) fun _ c hc => hc) (fun h e a b e1 e2 => by rw [e1] at h; cases h) fun _ c hc => hc) fun c hc => ⟨fun e => ?_, fun e => s_next ?_⟩)
    · obtain ⟨x, rfl⟩ : ∃ x, lo = some x := by
        cases lo with
        | none => cases h1
        | some x => exact ⟨x, rfl⟩
      obtain ⟨y, rfl⟩ : ∃ x, hi' = some x := by
        cases hi' with
        | none => cases h2
        | some x => exact ⟨x, rfl⟩
      refine (te_not (te_val (ev_less (ev_pl (a := x) (r := []) (ev_var rfl) ev_int) (ev_pl (a := y) (r := []) (ev_var rfl) ev_int) ((On.sm (lod.p x rfl) (by decide) (by decide)).mono (by decide)) ((On.sm (hid.p y rfl) (by decide) (by decide)).mono (by decide))))).imp fun c ec h a b ea eb => ?_
      cases ea
      cases eb
      subst ec
      simpa using h
    · exact s_ret (ev_tup (ag_cons (ev_var rfl) (ag_cons ev_non ag_nil))) ⟨_, rfl, (lo, none), rfl, ⟨hi.ne, hi.le, hi.w, hi.nb, hlo1, (fun a b e => nomatch e), fun a b _ e => nomatch e⟩, lod, ⟨fun a e => (nomatch e), fun a e => (nomatch e)⟩⟩
    · exact s_ret (ev_tup (ag_cons (ev_var rfl) (ag_cons (ev_var rfl) ag_nil))) ⟨_, rfl, (lo, hi'), rfl, ⟨hi.ne, hi.le, hi.w, hi.nb, hlo1, hhi1, hc e⟩, lod, hid⟩
end
end K57
/-! F14: cells -/
namespace PD
open PySem PySem.Spec PyProof.Rows L2
section
variable {K : PySem.W.Frag} {M : Addr → Prop} {W : XK} {ρ : List Sl} {te tj : TE} {i : Nat} {xs : List V}
theorem ev_lenS (e : ρ[i]? = some (.s xs)) : Ev K M (tCB (fun xs H Q => ∃ p ys, xs = [.ref p] ∧ (SqL K H p ys ∨ SqT K H p ys) ∧ Q (.int ys.length) H) (tCons (tVar i) tNil)) ρ (.int xs.length) := fun F H σ s o Q q => by
  obtain ⟨w, e1, a, rfl, h⟩ := o.at_ e
  exact ⟨.ref a, e1, a, xs, rfl, .inl (sql_mono s h), q _ _ F H rfl (.refl s) (.int _)⟩
theorem ev_ixS {j z : Int} (e : ρ[i]? = some (.s xs)) (hj : Ev K M tj ρ (.int j)) (h : atI xs j = some (.int z)) : Ev K M (tOp (rIxL K) (tVar i) tj) ρ (.int z) := fun F H σ s o Q q => by
  obtain ⟨w, e1, a, rfl, hs⟩ := o.at_ e
  refine ⟨.ref a, e1, hj F H σ s o _ fun d2 v2 F2 H2 p2 st2 rd2 => ?_⟩
  subst p2
  rw [rd2.int_]
  exact ⟨a, xs, j, .int z, rfl, rfl, sql_mono st2.fh (sql_mono st2.ff hs), h, q _ _ F2 H2 rfl st2 (.int z)⟩
end
end PD
namespace K57
open PySem PySem.Spec PyProof.Rows L2 PD M
section
variable {P : Program} {w : World} {K : PySem.W.Frag} {mg : Str → Option Value} {base : Heap}
theorem sc__law_cell : FnScope ["_law_script", "_law_k"] ["_law_script", "_law_k"] (defScope (top 52)) := ⟨rfl, rfl, rfl, by decide +kernel, rfl, by decide +kernel, by decide +kernel⟩
theorem ok__law_cell {f aN aO : Addr} {fd : FuncData} (T : Txt K mg aN aO)    (F : FunD K "_law_cell" "_law_cell" (defArgs (top 52)) (defBody (top 52)) (defScope (top 52)) [] [] f fd) : FnOk P w K mg base CX0 1 f fd ["_law_script", "_law_k"] (spCell K) := by
  refine ok_defG F sc__law_cell (fun vs H Q W h => ?_) (fun cdv A outer s H W hr => ⟨_, (pss_cons (ps_if (pt_cmpR op_lt (pv 1) (pe_callB call_len_seq (by rfl) T.f_len (by decide +kernel) (pa_cons (pv 0) pa_nil)) (nomark _)) (pss_one (ps_ret (pe_ix ix_list (pv 0) (pv 1) (fun _ _ => rfl)))) pss_nil)
      (pss_one (ps_ret (pe_op op_add (pe_op op_mulW (pe_op op_mulW pe_int (pv 1)) (pv 1)) (pe_op op_mulW pe_int (pv 1)))))), fun vs Q h => ?_⟩)
  · obtain ⟨Fz, a, ns, k, rfl, _⟩ := h
    rfl
  · obtain ⟨Fz, a, ns, k, rfl, sm, hs, hk, hn, q⟩ := h
    have key : ∀ {i : Nat} {t : Sl}, ([.s (ns.map V.int), .d (.int (k : Int))] : List Sl)[i]? = some t → t = .s (ns.map V.int) ∨ t = .d (.int (k : Int)) := fun {i t} e => by
      rcases List.mem_cons.mp (List.mem_of_getElem? e) with h | h
      · exact .inl h
      · exact .inr (List.mem_singleton.mp h)
    refine ⟨fun _ => False, Fz, [.s (ns.map V.int), .d (.int (k : Int))], IntP fun _ => True, ⟨⟨rfl, fun i t w e1 e2 => ?_, fun b m => m.elim⟩, .refl sm, fun b m => m.elim, fun i t w b e1 _ ow => ?_, fun i j t u v w b e1 _ _ _ ow _ => ?_⟩, ?_, fun d v F' H' ⟨z, ez, _⟩ st rv => ?_⟩
    · match i with
      | 0 => cases e1; cases e2; exact ⟨a, rfl, hs⟩
      | 1 => cases e1; cases e2; exact ⟨_, rfl, .int _⟩
      | i + 2 => cases e1
    · rcases key e1 with z | z <;> subst z <;> exact ow.elim
    · rcases key e1 with z | z <;> subst z <;> exact ow.elim
    · refine s_seq (s_if (te_test (ev_op (ev_var rfl) (ev_lenS rfl) od_lt)) (fun c => ?_) fun c => s_next ?_)
      · have c := of_decide_eq_true c
        rw [List.length_map] at c
        have hk : k < ns.length := by omega
        have e : (ns.map V.int)[k]? = some (.int ns[k]) := by rw [List.getElem?_map, List.getElem?_eq_getElem hk]; rfl
        exact s_ret (ev_ixS rfl (ev_var rfl) (atI_nat e)) ⟨_, rfl, _, rfl, trivial⟩
      · exact s_ret (ev_add (ev_mul (ev_mul ev_int (ev_var rfl) (cmul (m := 13) (n := 11) (by decide) (by omega))) (ev_var rfl) (cmul (m := 30) (n := 11) (by omega) (by omega))) (ev_mul ev_int (ev_var rfl) (cmul (m := 13) (n := 11) (by decide) (by omega)))) ⟨_, rfl, _, rfl, trivial⟩
    · subst ez
      rw [rv.int_]
      exact q z F' H' st
theorem sc__law_dig : FnScope ["_law_cell_here"] ["_law_cell_here"] (defScope (top 53)) := ⟨rfl, rfl, rfl, by decide +kernel, rfl, by decide +kernel, by decide +kernel⟩
theorem ok__law_dig {f aN aO : Addr} {fd : FuncData} (T : Txt K mg aN aO)    (F : FunD K "_law_dig" "_law_dig" (defArgs (top 53)) (defBody (top 53)) (defScope (top 53)) [] [] f fd) : FnOk P w K mg base CX0 1 f fd ["_law_cell_here"] (spDig K) := by
  refine F.ok sc__law_dig (fun vs H Q W h => ?_) (fun cdv A outer s H vs Q W hr h => ⟨_, (pss_one (ps_ret (pe_lst (pa_cons (pe_callB (call_max2 rfl) (by rfl) T.f_max (by decide +kernel) (pa_cons pe_int (pa_cons (pe_op op_sub (pv 0) (pe_op op_pow pe_int pe_int)) pa_nil))) (pa_cons (pe_op op_modN (pv 0) (pe_op op_pow pe_int pe_int)) (pa_cons pe_int pa_nil)))))), ?_⟩)
  · obtain ⟨Fz, c, rfl, _⟩ := h
    rfl
  · obtain ⟨Fz, c, rfl, sm, q⟩ := h
    have st := init_ok (K := K) (N := ["_law_cell_here"]) (ds := [.int c]) (vs := [.int c]) sm (.cons (.int c) .nil)
    have e18 : Ev K (fun _ => False) (tOp (rI CPow fun i j => .int (i ^ j.toNat)) (tC (.int 10)) (tC (.int 18))) (initS ["_law_cell_here"] [.int c]) (.int (10 ^ 18)) := ev_op ev_int ev_int (od_pow ⟨by decide, by decide, by decide⟩)
    refine el_lst (ag_cons (ev_cb (ag_cons ev_int (ag_cons (ev_op (ev_var rfl) e18 od_sub) ag_nil)) cb_max2) (ag_cons (ev_op (ev_var rfl) e18 (od_mod (by decide))) (ag_cons ev_int ag_nil))) (by simp) Fz H _ sm st.sl _ fun xs a vs F2 H2 e st fa ha ha' r => ?_
    subst e
    cases r with
    | cons r1 r =>
      obtain ⟨v2, v3, rfl, r2, r3⟩ := r.two
      rw [r1.int_, r2.int_, r3.int_] at ha'
      exact q _ _ _ a F2 H2 st fa ha ha'
end
end K57
/-! PD7: except (A, B) as n, where one of the two is what was raised -/
namespace L2
open PySem PySem.Spec PyProof.Rows
theorem FlyingZ_keeps {base h h' : Heap} {l : List Env} {e : Addr} {Z : Obj → Prop} (k : ∀ q o, h.get? q = some o → h'.get? q = some o) (x : HandSPX.FlyingZ base l e Z h) : HandSPX.FlyingZ base l e Z h' := by
  obtain ⟨f1, f2, f3, oe, vs, T, oT, ts, g1, g2, g3, g4, g5, g6, g7, g8, g9⟩ := x
  exact ⟨fun b o z => k _ _ (f1 b o z), f2, f3.of_keeps fun b o z _ => ⟨o, k _ _ z, rfl⟩, oe, vs, T, oT, ts, k _ _ g1, g2, g3, g4, g5, g6, k _ _ g7, g8, g9⟩
/-- what the clause 'except (x1, x2) as n' wishes of an exception of the body -/
def wAs2 (K : PySem.W.Frag) (c1 c2 : Value) (i : Nat) (ts : Addr → Value → Option Addr → TS) (D : Ends) : WX := fun cls d σ H =>
  PySem.W.exmAny K cls [c1, c2] = some true ∧ ∀ a, H a = none → ts a cls d { nx := fun σ' H' => D.nx (σ'.set i none) H', rt := D.rt, bk := fun σ' H' => D.bk (σ'.set i none) H', ct := fun σ' H' => D.ct (σ'.set i none) H' } (σ.set i (some (.ref a))) H
section
variable {X : Cx} {x1 x2 n : Str} {c1 c2 : Value} {i kk : Nat} {body suite : List Stmt} {b₀ : Stmt} {p1 p2 tpos pos pos' : Pos} {tb : WX → TS} {ts : Addr → Value → Option Addr → TS}
theorem ps_try_as2 (hs : X.stack = X.env :: X.outer) (hf : X.env.frame = some X.env.locals) (hN : X.N.Nodup) (hi : X.N[i]? = some n) (hln : X.env.kindOf n = some .local)
    (g1 : Gl X x1) (d1 : (x1 == ("__debug__" : Str)) = false) (m1 : X.mg x1 = some c1) (g2 : Gl X x2) (d2 : (x2 == ("__debug__" : Str)) = false) (m2 : X.mg x2 = some c2)
    (hb : ∀ (W : WX) (pn : List (Addr × Obj)) (xe : Value → Shared → Prop), Takes (X.tr pn xe) W → PassesOwn (model X.prog X.w) X.A X.env xe → PSs (X.tr pn xe) body (tb W))
    (hsu : ∀ (a : Addr) (oe : Obj) (cls : Value) (d : Option Addr) (pn : List (Addr × Obj)), Zc cls d oe → (∃ vs, oe.data = .fields vs) → PSs (X.suite a ((a, oe) :: pn)) (b₀ :: suite) (ts a cls d)) :
    PS X (.Try body [.ExceptHandler (some (.Tuple [.Name x1 p1, .Name x2 p2] kk tpos)) (some n) (b₀ :: suite) pos'] [] [] pos) (fun D σ H => tb (wAs2 X.K c1 c2 i ts D) D σ H) := by
  refine ⟨fun pins s σ H D I h => ?_⟩
  have ok := I.ok
  have hfr : X.A.frames = some (X.env :: X.outer) := by rw [ok.frames, hs]
  have hloc : Loc X.env.scope n := .inl hln
  refine wpAny_Try_except ?_
  refine wpAny_mono ((hb (wAs2 X.K c1 c2 i ts D) (X.pn ++ pins) (fun e s₁ => wpAny (model X.prog X.w) X.A (noteFrame e X.env) (fun _ s₂ => wpAny (model X.prog X.w) X.A (setFlight e none) (fun _ s₃ =>
    wpAny (model X.prog X.w) X.A (handleBy e X.env [.ExceptHandler (some (.Tuple [.Name x1 p1, .Name x2 p2] kk tpos)) (some n) (b₀ :: suite) pos']) (SP X pins D) X.xe s₃) X.xe s₂) X.xe s₁) (fun u s' xx => ?_) PassesOwn.looking).run [] s σ H D (I.toTry _) h) (fun f s1 hsp => ?_) (fun e s1 he => he)
  · obtain ⟨a, B, sI, pins', σ', H', cls, d, rfl, J', nb, up, sky, na, os, ag, hb1, hyes⟩ := xx
    have J : Inv X pins σ' H' sI := J'.ofTry ok
    have sky' : Sky B (X.env :: X.outer) a (Zc cls d) X.env.locals s'.heap := by rw [← hs]; exact sky
    show wpAny (model X.prog X.w) X.A (noteFrame (.ref a) X.env) _ _ _
    refine Sky.land Zc.steady hfr hf sky' fun h3 fl3 up3 => ?_
    have J3 : Inv X pins σ' H' { s' with heap := h3 } := J.landed nb fl3.1 (up.trans up3) os ag
    obtain ⟨oe3, vs3, he3, hz3, hd3⟩ := fl3.there
    have notFr : ∀ {h : Heap} {o : Obj} {vs : Array Value}, h.FunFrames B (X.env :: X.outer) → h.get? a = some o → o.data = .fields vs → a ∉ frs (X.env :: X.outer) := fun {h o vs} ff e dd hm => by
      obtain ⟨_, o', e', hnf⟩ := ff.mem hm
      rw [e] at e'; cases e'
      exact hnf _ dd
    have nfr := notFr fl3.2.2.1 he3 hd3
    have nL : a ≠ X.env.locals := fun z => nfr (List.mem_filterMap.mpr ⟨X.env, List.mem_cons_self, by rw [hf, z]⟩)
    have nF : a ∉ X.fs := fun hm => by
      obtain ⟨e, he, q⟩ := List.mem_filterMap.mp hm
      exact nfr (List.mem_filterMap.mpr ⟨e, List.mem_cons_of_mem _ he, q⟩)
    have S3 := J3.suite he3 hd3 na nL nF
    refine wpAny_handleBy_cons (codeAny_handlers_test ?_) (by intro q; cases q)
    refine wpAny_Tuple ?_
    refine wpAny_items_cons (ld_glob (X := X.suite a ((a, oe3) :: (X.pn ++ pins))) S3 g1 m1 ?_ d1)
    refine wpAny_items_cons (ld_glob (X := X.suite a ((a, oe3) :: (X.pn ++ pins))) S3 g2 m2 ?_ d2)
    refine wpAny_items_nil ⟨by size_fits, ?_⟩
    have kp : ∀ q o, h3.get? q = some o → (h3.push { cls := .type "tuple", data := .seq [c1, c2].toArray }).get? q = some o := fun _ _ z => Heap.get?_push_of_some _ z
    have fl5 := FlyingZ_keeps kp fl3
    have up5 : h3.UpToSlots (h3.push { cls := .type "tuple", data := .seq [c1, c2].toArray }) := fun b o e _ => ⟨o.slots, kp b o e⟩
    have LT : PySem.W.Looks (model X.prog X.w) h3 (typeOf (.ref a)) cls := fun A Q E s k q => wpAny_typeOf_ref (k _ _ he3) (by rw [hz3.1]; exact q)
    refine (PySem.W.exm_tup2 (M := model X.prog X.w) (J3.kIn.keeps kp) (LT.keeps kp) (Heap.get?_push_size h3 rfl) hb1).here ?_
    refine codeAny_handlers_suite_as ?_
    refine HandSPX.lands_againZ fl5 fun h4 fl4 up4 => ?_
    have J4 : Inv X pins σ' H' { s' with heap := h4 } := J.landed nb fl4.1 (((up.trans up3).trans up5).trans up4) os ag
    obtain ⟨oe4, vs4, he4, hz4, hd4⟩ := fl4.there
    have S4 := J4.suite he4 hd4 na nL nF
    refine store_ok (X := X.suite a ((a, oe4) :: (X.pn ++ pins))) (v := .ref a) S4 hN hi hloc rfl (fun s5 S5 => ?_) (.inr hln)
    refine wpAny_mono ((hsu a oe4 cls d (X.pn ++ pins) hz4 ⟨_, hd4⟩).run [] s5 _ H' _ S5 (hyes a na)) (fun f s6 hsp => ?_) (fun _ _ z => False.elim z)
    have end_ : ∀ {σ6 : St} {H6 : Hp} {Q : Shared → Prop}, Inv (X.suite a ((a, oe4) :: (X.pn ++ pins))) [] σ6 H6 s6 → (∀ s7, Inv X pins (σ6.set i none) H6 s7 → Q s7) →
        wpAny (model X.prog X.w) X.A (do bindName X.env n .none; unbindBehindTheSuite X.env n pos') (fun _ s7 => Q s7) X.xe s6 := fun {σ6 H6 Q} S6 hq => gone_ok (S6.unsuite ok) hN hi hln hq
    cases f with
    | next =>
      obtain ⟨σ6, H6, S6, q6⟩ := hsp
      exact end_ S6 fun s7 J7 => ⟨_, _, J7, q6⟩
    | brk =>
      obtain ⟨σ6, H6, S6, q6⟩ := hsp
      exact end_ S6 fun s7 J7 => ⟨_, _, J7, q6⟩
    | cont =>
      obtain ⟨σ6, H6, S6, q6⟩ := hsp
      exact end_ S6 fun s7 J7 => ⟨_, _, J7, q6⟩
    | ret u =>
      obtain ⟨v6, σ6, H6, S6, r6, q6⟩ := hsp
      exact end_ S6 fun s7 J7 => ⟨_, _, _, J7, r6, q6⟩
  · cases f with
    | next =>
      obtain ⟨σ', H', J', q⟩ := hsp
      exact wpAny_execs_nil ⟨σ', H', J'.ofTry ok, q⟩
    | brk =>
      obtain ⟨σ', H', J', q⟩ := hsp
      exact ⟨σ', H', J'.ofTry ok, q⟩
    | cont =>
      obtain ⟨σ', H', J', q⟩ := hsp
      exact ⟨σ', H', J'.ofTry ok, q⟩
    | ret u =>
      obtain ⟨v, σ', H', J', r, q⟩ := hsp
      exact ⟨v, σ', H', J'.ofTry ok, r, q⟩
end
end L2
/-! D6: what is seen of the next comings -/
namespace K57
open PySem PySem.Spec PyProof.Rows L2 PD M
def seenOf (row : List Ball) (ws : Ws) (r : List Ball) : List Sg := match nextC row ws with
  | .at_ _ gs => seenUp row r gs gs.length
  | _ => []
theorem nextC_at {row : List Ball} {ws : Ws} {t : Rat} {gs : List Grp} (en : nextC row ws = .at_ t gs) : least (things row ws) = some t ∧ shut ws ≠ some t ∧ gs = groups (row.map fun b => b.go t) (wsGo ws t) := by
  unfold nextC at en
  split at en
  · cases en
  · rename_i t' el
    split at en
    · cases en
    · rename_i hs
      cases en
      exact ⟨el, hs, rfl⟩
theorem behindC_at {row : List Ball} {ws ws2 : Ws} {t : Rat} {r : List Ball} (h : behindC row ws = .at_ t r ws2) : ∃ gs, nextC row ws = .at_ t gs ∧ rebound (row.map fun b => b.go t) (wsGo ws t) gs = some r ∧ ws2 = wsGo ws t := by
  unfold behindC at h
  split at h
  · cases h
  · cases h
  · rename_i t' gs en
    split at h
    · cases h
    · rename_i r' er
      cases h
      exact ⟨gs, en, er, rfl⟩
theorem seen_of {row : List Ball} {ws ws2 : Ws} {t : Rat} {r : List Ball} (hl : row.length ≤ 10) (h : behindC row ws = .at_ t r ws2) : Seen row ws (seenOf row ws r) r ws2 := by
  obtain ⟨gs, en, er, rfl⟩ := behindC_at h
  obtain ⟨_, _, hg⟩ := nextC_at en
  have inc := groups_inc (row.map fun b => b.go t) (wsGo ws t)
  rw [← hg] at inc
  have gl := groups_len (row.map fun b => b.go t) (wsGo ws t) (row.map fun b => b.go t).length
  have gl2 : gs.length ≤ 10 := by
    rw [List.length_map] at gl
    rw [hg]
    show (gUp (row.map fun b => b.go t) (wsGo ws t) (row.map fun b => b.go t).length).1.length ≤ 10
    rw [List.length_map]
    omega
  refine ⟨t, gs, en, h, ?_, ?_, gl2, ?_⟩
  · rw [(rebUp_some inc (Nat.le_refl _) er).1, List.length_map]
  · have := inc.ok
    rw [List.length_map] at this
    exact this
  · unfold seenOf
    rw [en]
theorem seenOf_len {row : List Ball} {ws ws2 : Ws} {t : Rat} {r : List Ball} (hl : row.length ≤ 10) (h : behindC row ws = .at_ t r ws2) : (seenOf row ws r).length ≤ 10 := by
  obtain ⟨t, gs, en, _, _, _, gl, e⟩ := (seen_of hl h).ex
  rw [e]
  have := seenUp_len row r gs gs.length
  omega
/-- what is seen of the next comings -/
def watch : Nat → List Ball → Ws → List Sg → List Sg
  | 0, _, _, l => l
  | k + 1, row, ws, l => match behindC row ws with
    | .at_ _ r ws2 => if 30 < l.length then l else watch k r ws2 (l ++ seenOf row ws r)
    | _ => l
def WatchOk : Nat → List Ball → Ws → Prop
  | 0, _, _ => True
  | k + 1, row, ws => RowOk row ws ∧ ∀ t r ws2, behindC row ws = .at_ t r ws2 → WatchOk k r ws2
def R_watched : List PyData → Out → Prop := fun ds o => ∃ (row : List Ball) (ws : Ws) (n : Nat), ds = [.tuple (row.map encB), encWs ws, .int (n : Int)] ∧ n ≤ 20 ∧ WatchOk n row ws ∧ o = .rt (.list ((watch n row ws []).map encS))
end K57
namespace PD
open PySem PySem.Spec PyProof.Rows L2
section
variable {K : PySem.W.Frag} {M : Addr → Prop} {W : XK} {ρ : List Sl} {tA : TA}
/-- try: i = f(..) is not None; except (C1, C2) as e: i = False -/
theorem s_try2 {R : List PyData → Out → Prop} {ds : List PyData} {o : Out} {i e : Nat} {C1 C2 : Addr} {Φ : Out → Prop} (ha : Ag K M tA ρ ds) (h : R ds o) (hx : ∀ C, o = .ex C → PySem.W.exmAny K (.ref C) [.ref C1, .ref C2] = some true)
    (q1 : ∀ d, o = .rt d → Φ (.nx (ρ.set i (.d (.bool (!isNone d)))))) (q2 : ∀ C, o = .ex C → Φ (.nx (((ρ.set e .u).set i (.d (.bool false))).set e .u))) :
    S K M W (fun D σ H => tAsg (tOp (fun x y H Q => y = .non ∧ Q (.bl (!decide (x = .non))) H) (tCallSD (spF K R) [] (WE (wAs2 K (.ref C1) (.ref C2) e (fun _ _ _ => tAsg (tC (.bl false)) (gName i)) D)) tA) (tC .non)) (gName i) D σ H) ρ Φ := fun H0 F0 F H σ D s k1 k2 k3 k4 k5 =>
  ha F H σ s.st.fh s.sl _ fun ds' vs F1 H1 ee st r => by
    subst ee
    have s1 := s.step st
    refine ⟨F1, ds', o, st.fh, by rw [List.append_nil]; exact r, h, fun d v F' H' eo st' rv => ?_, fun C dd F' H' eo st' => ?_⟩
    · refine ⟨rfl, ?_⟩
      refine k1 _ _ F' H' (q1 d eo) ((s1.step st'.weak).setD i ?_)
      rw [isNone_v rv]
      exact .bl _
    · refine ⟨hx C eo, fun a na => ?_⟩
      exact k1 _ _ F' H' (q2 C eo) ((((s1.step st'.weak).setU e _).setD i (.bl false)).setU e _)
end
end PD
namespace K57
open PySem PySem.Spec PyProof.Rows L2 PD M
theorem pe_calS {X : Cx} {CX : CXT} {k : Nat} {x : Str} {ps : List Str} {dvs : List V} {sp : Sp} {W : L2.St → XK} {e : Expr} {es : List Expr} {t : TA} {p pos : Pos} (C : Cal X.prog X.w X.K X.mg X.base CX k x ps dvs sp) (hr : Room k X.A) (hx : ∀ σ, PassesAt CX X σ (W σ)) (ha : PA X (e :: es) t)
    (hg : Gl X x := by rfl) (hd : (x == ("__debug__" : Str)) = false := by decide) (he : starEach (e :: es) X.env = (false, eval e X.env) :: starEach es X.env := by rfl) (hpl : (backTo pos (starEach es X.env)).any (·.1) = false := by rfl) :
    PE X (.Call (.Name x p) (e :: es) [] pos) (tCallSD sp dvs W t) := by
  obtain ⟨f, fd, ds, hm, hk, hb, hv, hF⟩ := C.ex
  exact pe_callSD hF hr hg hm hk hb hv hx ha (hdb := hd) (he := he) (hpl := hpl)
end K57
/-! F15: the comings watched -/
namespace K57
open PySem PySem.Spec PyProof.Rows L2 PD M
section
variable {P : Program} {w : World} {K : PySem.W.Frag} {mg : Str → Option Value} {base : Heap}
theorem sc__law_watched : FnScope ["_law_row_here", "_law_shuts", "_law_most", "_law_some", "_law_turn", "_law_going", "e", "_law_more"] ["_law_row_here", "_law_shuts", "_law_most"] (defScope (top 74)) := ⟨rfl, rfl, rfl, by decide +kernel, rfl, by decide +kernel, by decide +kernel⟩
theorem ok__law_watched {f aN aO : Addr} {fd : FuncData} (T : Txt K mg aN aO) {cT cS : Addr} (gT : mg "Together" = some (.ref cT)) (gS : mg "Shut" = some (.ref cS)) (hT : PySem.W.exmAny K (.ref cT) [.ref cT, .ref cS] = some true) (hS : PySem.W.exmAny K (.ref cS) [.ref cT, .ref cS] = some true) (C__law_seen : Cal P w K mg base CX0 9 "_law_seen" ["_law_row_here", "_law_shuts"] [] (spF K R_seen)) (C_behind : Cal P w K mg base (L2.CX P w) 8 "behind" ["row", "walls"] [] (spF K (R_behind cT cS)))  (F : FunD K "_law_watched" "_law_watched" (defArgs (top 74)) (defBody (top 74)) (defScope (top 74)) [] [] f fd) : FnOk P w K mg base CX0 10 f fd ["_law_row_here", "_law_shuts", "_law_most"] (spF K R_watched) := by
  refine ok_def F sc__law_watched (fun ds o h => ?_) (fun cdv A outer s H W hr => ⟨_, (pss_cons (ps_set (i := 3) sc__law_watched.nd rfl (Or.inl rfl) (pe_lst pa_nil))
      (pss_cons (ps_for (passes_of rfl) rfl (pi_range1 (by rfl) T.f_range (pa_cons (pv 2) pa_nil)) (pg_name (i := 4) sc__law_watched.nd rfl (Or.inl rfl)) (pss_cons (ps_set (i := 5) sc__law_watched.nd rfl (Or.inl rfl) pe_bl)
      (pss_cons (ps_try_as2 (i := 6) (ts := fun _ _ _ => tAsg (tC (.bl false)) (gName 5)) rfl rfl sc__law_watched.nd rfl rfl rfl (by decide) gT rfl (by decide) gS (fun W pn xe tk _ => pss_one (ps_set (i := 5) sc__law_watched.nd rfl (Or.inl rfl) (pe_cmpR op_notN (pe_calS C_behind (hr.mono (by decide)) (fun σ => passAt tk σ) (pa_cons (pv 0) (pa_cons (pv 1) pa_nil))) pe_non (nomark _)))) (fun a oe cls d pn hz hf => pss_one (ps_set (i := 5) sc__law_watched.nd rfl (Or.inl rfl) pe_bl)))
      (pss_cons (ps_if (PW.pt (pw_or (pt_not (pt_val (pv 5))) (pw_or1 (pt_cmpR op_gt (pe_callB call_len_seq (by rfl) T.f_len (by decide +kernel) (pa_cons (pv 3) pa_nil)) pe_int (nomark _))))) (pss_one (ps_ret (pv 3))) pss_nil)
      (pss_cons (ps_asg (pe_cal C__law_seen (hr.mono (by decide)) pass0 (pa_cons (pv 0) (pa_cons (pv 1) pa_nil))) (pg_tup rfl (pgs_cons (pg_name (i := 7) sc__law_watched.nd rfl (Or.inl rfl)) (pgs_cons (pg_name (i := 0) sc__law_watched.nd rfl (Or.inl rfl)) (pgs_cons (pg_name (i := 1) sc__law_watched.nd rfl (Or.inl rfl)) pgs_nil)))))
      (pss_one (ps_set (i := 3) sc__law_watched.nd rfl (Or.inl rfl) (pe_op op_cat (pv 3) (pv 7)))))))))
      (pss_one (ps_ret (pv 3))))), fun ds o h => ?_⟩)
  · obtain ⟨row, ws, n, rfl, _, _, rfl⟩ := h
    exact ⟨rfl, .inl ⟨_, rfl⟩⟩
  · obtain ⟨row, ws, n, rfl, hn, hok, rfl⟩ := h
    refine s_seq (s_setL (el_lst ag_nil) ?_)
    refine s_freeze (i := 3) rfl ?_
    refine s_seq (s_forR (n := n) (J := fun k ρ' => ∃ (row' : List Ball) (ws' : Ws) (l : List Sg) (c4 c5 c6 c7 : Sl), ρ' = [.d (.tuple (row'.map encB)), .d (encWs ws'), .d (.int (n : Int)), .d (.list (l.map encS)), c4, c5, c6, c7] ∧ k ≤ n ∧ watch (n - k) row' ws' l = watch n row ws [] ∧ WatchOk (n - k) row' ws' ∧ l.length ≤ 10 * k) (ag_cons (ev_var rfl) ag_nil) (by omega) ⟨row, ws, [], .u, .u, .u, .u, rfl, Nat.zero_le _, rfl, hok, Nat.zero_le _⟩ ?_ ?_)
    · rintro k ρ' hk ⟨row', ws', l, c4, c5, c6, c7, rfl, _, hw, ho, hl⟩
      obtain ⟨m, hm⟩ : ∃ m, n - k = m + 1 := ⟨n - k - 1, by omega⟩
      have hm' : n - (k + 1) = m := by omega
      rw [hm] at hw ho
      obtain ⟨hrow, hnext⟩ := ho
      refine ⟨_, tg_name, ?_⟩
      refine s_seq (s_set ev_bl ?_)
      refine s_cut (fun ρ' => ∃ (g : Bool) (c6 : Sl), ρ' = [.d (.tuple (row'.map encB)), .d (encWs ws'), .d (.int (n : Int)), .d (.list (l.map encS)), .d (.int (k : Int)), .d (.bool g), c6, c7] ∧ (g = true → ∃ t r ws2, behindC row' ws' = .at_ t r ws2) ∧ (g = false → watch n row ws [] = l)) (s_try2 (i := 5) (e := 6) (o := outBeh cT cS (behindC row' ws')) (ag_cons (ev_var rfl) (ag_cons (ev_var rfl) ag_nil)) ⟨row', ws', rfl, hrow, rfl⟩ (fun C ec => ?_) (fun d ed => ?_) fun C ec => ?_) ?_
      · cases eb : behindC row' ws' with
        | none => rw [eb] at ec; cases ec
        | at_ t r ws2 => rw [eb] at ec; cases ec
        | shut => rw [eb] at ec; cases ec; exact hS
        | toge => rw [eb] at ec; cases ec; exact hT
      · cases eb : behindC row' ws' with
        | shut => rw [eb] at ed; cases ed
        | toge => rw [eb] at ed; cases ed
        | none =>
          rw [eb] at ed
          cases ed
          exact ⟨_, rfl, false, _, rfl, (fun z => by cases z), fun _ => by rw [← hw, watch, eb]⟩
        | at_ t r ws2 =>
          rw [eb] at ed
          cases ed
          exact ⟨_, rfl, true, _, rfl, fun _ => ⟨t, r, ws2, rfl⟩, fun z => by cases z⟩
      · refine ⟨_, rfl, false, _, rfl, (fun z => by cases z), fun _ => ?_⟩
        rw [← hw, watch]
        cases eb : behindC row' ws' with
        | none => rfl
        | at_ t r ws2 => rw [eb] at ec; cases ec
        | shut => rfl
        | toge => rfl
      rintro ρ' ⟨g, c6, rfl, g1, g2⟩
      refine s_seq (s_if (te_or (te_not (te_val (ev_var rfl))) fun _ => te_test (ev_op (ev_cb (ag_cons (ev_var rfl) ag_nil) cb_lenL) ev_int od_gt)) (fun c => ?_) fun c => s_next ?_)
      · refine s_ret (ev_var rfl) (.inl ?_)
        cases g with
        | false => rw [g2 rfl]
        | true =>
          obtain ⟨t, r, ws2, eb⟩ := g1 rfl
          have c : (30 : Int) < ((l.map encS).length : Int) := of_decide_eq_true c
          rw [List.length_map] at c
          rw [← hw, watch, eb]
          simp only
          rw [if_pos (by omega)]
      · cases g with
        | false => cases c
        | true =>
          obtain ⟨t, r, ws2, eb⟩ := g1 rfl
          have c : ¬ (30 : Int) < ((l.map encS).length : Int) := of_decide_eq_false c
          rw [List.length_map] at c
          have hl2 := seenOf_len hrow.len eb
          refine s_seq (s_asg (ev_fn (d := .tuple [.list ((seenOf row' ws' r).map encS), .tuple (r.map encB), encWs ws2]) (ag_cons (ev_var rfl) (ag_cons (ev_var rfl) ag_nil)) ⟨row', ws', _, r, ws2, rfl, hrow, seen_of hrow.len eb, rfl⟩) (tg_tup rfl (tgA_cons tg_name (tgA_cons tg_name (tgA_cons tg_name tgA_nil)))) ?_)
          refine s_set (EL.ev (el_op (ev_var rfl) (ev_var rfl) (ol_cat (by rw [List.length_map, List.length_map]; omega)))) ?_
          refine ⟨r, ws2, l ++ seenOf row' ws' r, .d (.int (k : Int)), .d (.bool true), c6, .d (.list ((seenOf row' ws' r).map encS)), ?_, by omega, ?_, ?_, ?_⟩
          · rw [List.map_append]
            rfl
          · rw [hm', ← hw, watch, eb]
            simp only
            rw [if_neg (by omega)]
          · rw [hm']
            exact hnext t r ws2 eb
          · rw [List.length_append]
            omega
    · rintro ρ' ⟨row', ws', l, c4, c5, c6, c7, rfl, _, hw, ho, hl⟩
      rw [Nat.sub_self] at hw
      exact s_ret (ev_var rfl) (.inl (by rw [← hw]; rfl))
end
end K57
/-! PD8: dicts, and an object with two dicts -/
namespace PD
open PySem PySem.Spec PyProof.Rows L2
def find (ds : List (Nat × PyData)) (b : Nat) : Option PyData := (ds.find? fun x => decide (x.1 = b)).map (·.2)
theorem find_nil (b : Nat) : find [] b = none := rfl
theorem find_cons (x : Nat × PyData) (ds : List (Nat × PyData)) (b : Nat) : find (x :: ds) b = if x.1 = b then some x.2 else find ds b := by
  unfold find
  rw [List.find?_cons]
  by_cases h : x.1 = b
  · simp [h]
  · simp [h]
theorem key_inj {a b : Nat} (h : (Sum.inl (a : Int) : Key) = .inl (b : Int)) : a = b := by
  have := Sum.inl.inj h
  omega
section
variable {K : PySem.W.Frag} {F : Hp}
theorem RpD.nil : RpD K F [] [] := ⟨rfl, .nil⟩
theorem RpD.cons_inv {kv : Key × V} {kvs : List (Key × V)} {ds : List (Nat × PyData)} (h : RpD K F (kv :: kvs) ds) : ∃ x ds', ds = x :: ds' ∧ kv.1 = .inl (x.1 : Int) ∧ Rp K F kv.2 x.2 ∧ RpD K F kvs ds' := by
  cases ds with
  | nil => cases h.1
  | cons x ds' =>
    have h1 := h.1
    have h2 := h.2
    unfold keysD at h1
    rw [List.map_cons, List.map_cons] at h1
    rw [List.map_cons, List.map_cons] at h2
    cases h2 with
    | cons r1 r2 => exact ⟨x, ds', rfl, (List.cons.inj h1).1, r1, (List.cons.inj h1).2, r2⟩
theorem RpD.nil_inv {ds : List (Nat × PyData)} (h : RpD K F [] ds) : ds = [] := by
  cases ds with
  | nil => rfl
  | cons x ds' => cases h.1
theorem RpD.cons {k : Nat} {v : V} {d : PyData} {kvs : List (Key × V)} {ds : List (Nat × PyData)} (r : Rp K F v d) (h : RpD K F kvs ds) : RpD K F ((.inl (k : Int), v) :: kvs) ((k, d) :: ds) :=
  ⟨by unfold keysD; rw [List.map_cons, List.map_cons]; exact congrArg _ h.1, .cons r h.2⟩
theorem RpD.len {kvs : List (Key × V)} {ds : List (Nat × PyData)} (h : RpD K F kvs ds) : kvs.length = ds.length := by
  have := h.2.length
  simpa using this
theorem RpD.val : ∀ {kvs : List (Key × V)} {ds : List (Nat × PyData)}, RpD K F kvs ds → ∀ b : Nat, (∀ d, find ds b = some d → ∃ v, valV kvs (.inl (b : Int)) = some v ∧ Rp K F v d) ∧ (find ds b = none → valV kvs (.inl (b : Int)) = none)
  | [], _, h, b => by
    rw [h.nil_inv]
    exact ⟨(fun d e => by cases e), fun _ => rfl⟩
  | kv :: kvs, _, h, b => by
    obtain ⟨x, ds', rfl, e, r, h'⟩ := h.cons_inv
    rw [find_cons]
    by_cases hb : x.1 = b
    · rw [if_pos hb, valV_pos (by rw [e, hb])]
      exact ⟨(fun d q => by cases q; exact ⟨_, rfl, r⟩), fun q => by cases q⟩
    · rw [if_neg hb, valV_neg (fun q => hb (key_inj (by rw [← e]; exact q)))]
      exact RpD.val h' b
theorem RpD.app : ∀ {kvs : List (Key × V)} {ds : List (Nat × PyData)} {k : Nat} {v : V} {d : PyData}, RpD K F kvs ds → Rp K F v d → RpD K F (kvs ++ [(.inl (k : Int), v)]) (ds ++ [(k, d)])
  | [], _, k, v, d, h, r => by
    rw [h.nil_inv]
    exact .cons r .nil
  | kv :: kvs, _, k, v, d, h, r => by
    obtain ⟨x, ds', rfl, e, r1, h'⟩ := h.cons_inv
    obtain ⟨a, b⟩ := kv
    cases e
    exact .cons r1 (RpD.app h' r)
/-- d[k] = v on data -/
def putD (ds : List (Nat × PyData)) (k : Nat) (d : PyData) : List (Nat × PyData) := if (ds.any fun x => decide (x.1 = k)) = true then ds.map (fun x => if x.1 = k then (x.1, d) else x) else ds ++ [(k, d)]
theorem RpD.any {kvs : List (Key × V)} {ds : List (Nat × PyData)} (h : RpD K F kvs ds) (k : Nat) : (kvs.any fun kv => decide (kv.1 = (Sum.inl (k : Int) : Key))) = ds.any fun x => decide (x.1 = k) := by
  induction kvs generalizing ds with
  | nil => rw [h.nil_inv]; rfl
  | cons kv kvs ih =>
    obtain ⟨x, ds', rfl, e, r1, h'⟩ := h.cons_inv
    rw [List.any_cons, List.any_cons, ih h']
    congr 1
    rw [decide_eq_decide, e]
    exact ⟨key_inj, fun q => by rw [q]⟩
theorem RpD.upd {k : Nat} {v : V} {d : PyData} (r : Rp K F v d) : ∀ {kvs : List (Key × V)} {ds : List (Nat × PyData)}, RpD K F kvs ds → RpD K F (kvs.map fun kv => if kv.1 = (Sum.inl (k : Int) : Key) then (kv.1, v) else kv) (ds.map fun x => if x.1 = k then (x.1, d) else x)
  | [], _, h => by rw [h.nil_inv]; exact .nil
  | kv :: kvs, _, h => by
    obtain ⟨x, ds', rfl, e, r1, h'⟩ := h.cons_inv
    obtain ⟨a, b⟩ := kv
    cases e
    rw [List.map_cons, List.map_cons]
    by_cases hk : x.1 = k
    · rw [if_pos (by rw [hk]), if_pos hk]
      exact .cons r (RpD.upd r h')
    · rw [if_neg (fun q => hk (key_inj q)), if_neg hk]
      exact .cons r1 (RpD.upd r h')
theorem RpD.put {kvs : List (Key × V)} {ds : List (Nat × PyData)} {k : Nat} {v : V} {d : PyData} (h : RpD K F kvs ds) (r : Rp K F v d) : RpD K F (putK kvs (.inl (k : Int)) v) (putD ds k d) := by
  unfold putK putD
  rw [h.any]
  split
  · exact RpD.upd r h
  · exact h.app r
theorem putD_new {ds : List (Nat × PyData)} {k : Nat} {d : PyData} (h : find ds k = none) : putD ds k d = ds ++ [(k, d)] := by
  unfold putD
  rw [if_neg]
  intro e
  obtain ⟨x, hx, e⟩ := List.any_eq_true.mp e
  unfold find at h
  rw [Option.map_eq_none_iff, List.find?_eq_none] at h
  exact h x hx e
theorem mem_putD {ds : List (Nat × PyData)} {k : Nat} {d : PyData} {x : Nat × PyData} (h : x ∈ putD ds k d) : x ∈ ds ∨ x = (k, d) := by
  unfold putD at h
  split at h
  · obtain ⟨y, hy, e⟩ := List.mem_map.mp h
    split at e
    · rename_i c
      right
      rw [← e, c]
    · left
      rw [← e]
      exact hy
  · rcases List.mem_append.mp h with h | h
    · exact .inl h
    · exact .inr (List.mem_singleton.mp h)
theorem find_isSome {ds : List (Nat × PyData)} {k : Nat} : (find ds k).isSome = true ↔ ∃ x ∈ ds, x.1 = k := by
  unfold find
  rw [Option.isSome_map, List.find?_isSome]
  simp
theorem keys_putD {ds : List (Nat × PyData)} {k j : Nat} {d : PyData} (h : (find ds j).isSome = true ∨ k = j) : (find (putD ds k d) j).isSome = true := by
  rw [find_isSome]
  unfold putD
  split
  · rename_i c
    obtain ⟨y, hy, e⟩ := List.any_eq_true.mp c
    have e := of_decide_eq_true e
    have : ∃ x ∈ ds, x.1 = j := by
      rcases h with h | rfl
      · exact find_isSome.mp h
      · exact ⟨y, hy, e⟩
    obtain ⟨x, hx, ex⟩ := this
    refine ⟨_, List.mem_map.mpr ⟨x, hx, rfl⟩, ?_⟩
    split <;> exact ex
  · rcases h with h | rfl
    · obtain ⟨x, hx, ex⟩ := find_isSome.mp h
      exact ⟨x, List.mem_append_left _ hx, ex⟩
    · exact ⟨_, List.mem_append_right _ List.mem_cons_self, rfl⟩
theorem len_putD (ds : List (Nat × PyData)) (k : Nat) (d : PyData) : (putD ds k d).length ≤ ds.length + 1 := by
  unfold putD
  split
  · rw [List.length_map]; omega
  · rw [List.length_append, List.length_singleton]; omega
theorem RpD.merge : ∀ {more : List (Key × V)} {es : List (Nat × PyData)} {kvs : List (Key × V)} {ds : List (Nat × PyData)}, RpD K F more es → RpD K F kvs ds → ∃ gs, RpD K F (mergeK kvs more) gs ∧ (∀ x ∈ gs, x ∈ ds ∨ x ∈ es) ∧ (∀ k, (find ds k).isSome = true ∨ (find es k).isSome = true → (find gs k).isSome = true) ∧ gs.length ≤ ds.length + es.length
  | [], _, kvs, ds, h, g => by
    rw [h.nil_inv]
    exact ⟨ds, g, fun x hx => .inl hx, (fun k hk => hk.elim id fun hk => by cases hk), by simp⟩
  | kv :: more, _, kvs, ds, h, g => by
    obtain ⟨x, es', rfl, e, r1, h'⟩ := h.cons_inv
    obtain ⟨a, b⟩ := kv
    cases e
    obtain ⟨gs, h1, h2, h3, h4⟩ := RpD.merge h' (g.put r1)
    refine ⟨gs, h1, fun y hy => ?_, fun k hk => h3 k ?_, ?_⟩
    · rcases h2 y hy with z | z
      · rcases mem_putD z with z | z
        · exact .inl z
        · right
          rw [z]
          exact List.mem_cons_self
      · exact .inr (List.mem_cons_of_mem _ z)
    · rcases hk with hk | hk
      · exact .inl (keys_putD (.inl hk))
      · rw [find_cons] at hk
        split at hk
        · rename_i c
          exact .inl (keys_putD (.inr c))
        · exact .inr hk
    · have := len_putD ds x.1 x.2
      rw [List.length_cons]
      omega
end
/-! ### d.update(o) -/
def rUpdate : V → List V → Hp → VK → Prop := fun x vs H Q => ∃ d o kvs more, x = .ref d ∧ vs = [.ref o] ∧ d ≠ o ∧ H d = some (.dK kvs) ∧ H o = some (.dK more) ∧ kvs.length + more.length ≤ sizeLine ∧ Q .non (upd H d (.dK (mergeK kvs more)))
theorem mt_update {X : Cx} : MtM X "dict.update" rUpdate := by
  intro pins s σ H x vs v us Q I rx rv h
  obtain ⟨d, o, kvs, more, rfl, rfl, hne, hd, ho, hz, q⟩ := h
  cases rx
  obtain ⟨u, rfl, ru⟩ := rv.one
  cases ru
  obtain ⟨z1, hd1, vs1, rel1, dd1⟩ := dk_of I.hok hd
  obtain ⟨z2, hd2, vs2, rel2, dd2⟩ := dk_of I.hok ho
  refine call_meetsIn PySem.F.slot_dict_update dd1.typeIs PySem.F.entry_dict_update (PySem.F.args_dict_update_2 _ _) (meets_dict_update (mixKind X.prog X.w) d o hne hd2)
    ⟨vs1, vs2, dd1, dd2, by rw [← rel1.length, ← rel2.length]; exact hz, fun h' hmm _ hs => ?_⟩
  have he : ∃ q, h'.get? d = some q := let ⟨q, _, _, hq, _⟩ := hmm; ⟨q, hq⟩
  have hl : (mergeK kvs more).length ≤ sizeLine := Nat.le_trans (length_mergeK more kvs) hz
  exact ⟨.non, _, d_write (t' := s.toks) I (by rw [hd]; exact True.intro) hs he (dk_new hl hd1 (rel2.merge rel1) hmm), rfl, q⟩
end PD
/-! PD9: rules for slots that hold a dict, an object with two dicts -/
namespace PD
open PySem PySem.Spec PyProof.Rows L2
/-- what is known of the class -/
structure PCls (K : PySem.W.Frag) (C : Addr) : Prop where
  c : Cls K C
  n1 : NoAttr K C "sightings"
  n2 : NoAttr K C "weights"
  n3 : NoAttr K C "came"
  n4 : NoAttr K C "ring"
section
variable {K : PySem.W.Frag} {M : Addr → Prop} {W : XK} {ρ : List Sl} {te tv ty tj : TE} {tA : TA} {t u : TS} {g : TG} {d : PyData} {P : PyData → Prop} {Φ : Out → Prop} {i b : Nat} {x : Ob} {ds : List (Nat × PyData)}
theorem SlsOk.obj {F H : Hp} {σ : L2.St} (o : SlsOk K M F H ρ σ) (e : ρ[i]? = some (.o x)) : σ[i]? = some (some (.ref x.a)) ∧ (∀ b, x.has b → F b = none ∧ ¬ M b) ∧ x.dw ≠ x.dc ∧ ObOk K F H x := by
  obtain ⟨w, e1, rfl, h⟩ := o.at_ e
  exact ⟨e1, h⟩
theorem ev_fS (e : ρ[i]? = some (.o x)) (c : PCls K x.C) : Ev K M (tFld K (tVar i) "sightings") ρ x.ss := fun F H σ s o Q q => by
  obtain ⟨e1, hb, hne, h1, h2, h3, r1, r4, rw_, rc⟩ := o.obj e
  exact ⟨.ref x.a, e1, x.a, x.C, x.dx, _, x.v1, rfl, h1, c.c, c.n1, rfl, q _ x.v1 F H rfl (.refl s) r1⟩
theorem ev_fR (e : ρ[i]? = some (.o x)) (c : PCls K x.C) : Ev K M (tFld K (tVar i) "ring") ρ x.rg := fun F H σ s o Q q => by
  obtain ⟨e1, hb, hne, h1, h2, h3, r1, r4, rw_, rc⟩ := o.obj e
  exact ⟨.ref x.a, e1, x.a, x.C, x.dx, _, x.v4, rfl, h1, c.c, c.n4, rfl, q _ x.v4 F H rfl (.refl s) r4⟩
theorem ev_getW (e : ρ[i]? = some (.o x)) (c : PCls K x.C) (hy : Ev K M ty ρ (.int (b : Int))) (hf : find x.wt b = some d) : Ev K M (tDGet (tFld K (tVar i) "weights") ty) ρ d := fun F H σ s o Q q => by
  obtain ⟨e1, hb, hne, h1, h2, h3, r1, r4, rw_, rc⟩ := o.obj e
  refine ⟨.ref x.a, e1, x.a, x.C, x.dx, _, .ref x.dw, rfl, h1, c.c, c.n2, rfl, hy F H σ s o _ fun d2 v2 F2 H2 p2 st2 rd2 => ?_⟩
  subst p2
  rw [rd2.int_]
  obtain ⟨v, hv, rv⟩ := ((rw_.up st2.ff).val b).1 d hf
  exact ⟨x.dw, v, rfl, by rw [← hv]; exact DGet.k (k := .inl (b : Int)) (st2.hh _ _ h2 (hb _ (.inr (.inl rfl))).2), q d v F2 H2 rfl st2 rv⟩
theorem ev_getC (e : ρ[i]? = some (.o x)) (c : PCls K x.C) (hy : Ev K M ty ρ (.int (b : Int))) (hf : find x.cm b = some d) : Ev K M (tDGet (tFld K (tVar i) "came") ty) ρ d := fun F H σ s o Q q => by
  obtain ⟨e1, hb, hne, h1, h2, h3, r1, r4, rw_, rc⟩ := o.obj e
  refine ⟨.ref x.a, e1, x.a, x.C, x.dx, _, .ref x.dc, rfl, h1, c.c, c.n3, rfl, hy F H σ s o _ fun d2 v2 F2 H2 p2 st2 rd2 => ?_⟩
  subst p2
  rw [rd2.int_]
  obtain ⟨v, hv, rv⟩ := ((rc.up st2.ff).val b).1 d hf
  exact ⟨x.dc, v, rfl, by rw [← hv]; exact DGet.k (k := .inl (b : Int)) (st2.hh _ _ h3 (hb _ (.inr (.inr rfl))).2), q d v F2 H2 rfl st2 rv⟩
theorem ev_ninW (e : ρ[i]? = some (.o x)) (c : PCls K x.C) (hy : Ev K M ty ρ (.int (b : Int))) : Ev K M (tDNotIn ty (tFld K (tVar i) "weights")) ρ (.bool (find x.wt b).isNone) := fun F H σ s o Q q => by
  refine hy F H σ s o _ fun d2 v2 F2 H2 p2 st2 rd2 => ?_
  subst p2
  obtain ⟨e1, hb, hne, h1, h2, h3, r1, r4, rw_, rc⟩ := (o.step st2).obj e
  rw [rd2.int_]
  refine ⟨.ref x.a, e1, x.a, x.C, x.dx, _, .ref x.dw, rfl, h1, c.c, c.n2, rfl, x.dw, valV x.kw (.inl (b : Int)), rfl, DGet.k (k := .inl (b : Int)) h2, ?_⟩
  have e3 : (!(valV x.kw (.inl (b : Int) : Key)).isSome) = (find x.wt b).isNone := by
    cases hf : find x.wt b with
    | none => rw [(rw_.val b).2 hf]; rfl
    | some d =>
      obtain ⟨v, hv, _⟩ := (rw_.val b).1 d hf
      rw [hv]
      rfl
  rw [e3]
  exact q _ _ F2 H2 rfl st2 (.bl _)
theorem obj_nl {F H : Hp} (h : ObOk K F H x) : ∀ b, x.has b → ¬ IsPool H b := by
  obtain ⟨h1, h2, h3, _⟩ := h
  rintro b (rfl | rfl | rfl) ⟨p, q, r, e⟩
  · rw [h1] at e; cases e
  · rw [h2] at e; cases e
  · rw [h3] at e; cases e
theorem obj_ne {F H : Hp} (h : ObOk K F H x) : x.a ≠ x.dw ∧ x.a ≠ x.dc := by
  obtain ⟨h1, h2, h3, _⟩ := h
  constructor
  · intro e; rw [e, h2] at h1; cases h1
  · intro e; rw [e, h3] at h1; cases h1
/-- self.weights[b] = v -/
theorem s_dputW (e : ρ[i]? = some (.o x)) (c : PCls K x.C) (hv : Ev K M tv ρ d) (hy : Ev K M ty ρ (.int (b : Int))) (hl : x.wt.length < 1000) (q : ∀ kw, Φ (.nx (ρ.set i (.o { x with kw := kw, wt := putD x.wt b d })))) : S K M W (sDPut (tFld K (tVar i) "weights") ty tv) ρ Φ := fun H0 F0 F H σ D s k1 _ _ _ _ => by
  refine hv F H σ s.st.fh s.sl _ fun d1 v F1 H1 p1 st1 rd1 => ?_
  subst p1
  have s1 := s.step st1
  obtain ⟨e1, hb, hne, h1, h2, h3, r1, r4, rw_, rc⟩ := s1.sl.obj e
  refine ⟨.ref x.a, e1, x.a, x.C, x.dx, _, .ref x.dw, rfl, h1, c.c, c.n2, rfl, hy F1 H1 σ s1.st.fh s1.sl _ fun d2 v2 F2 H2 p2 st2 rd2 => ?_⟩
  subst p2
  rw [rd2.int_]
  have s2 := s1.step st2
  obtain ⟨e1, hb, hne, ob⟩ := s2.sl.obj e
  have ob' := ob
  obtain ⟨h1, h2, h3, r1, r4, rw_, rc⟩ := ob
  refine ⟨x.dw, _, rfl, DPut.k (k := .inl (b : Int)) h2 (small (by rw [rw_.len]; omega)), k1 _ _ F2 _ (q _) (s2.mut e e1 (.updO s2.st.fh (.inr (.inl rfl)) (hb _ (.inr (.inl rfl))).1 (obj_nl ob')) ⟨rfl, hb, hne, ?_, upd_same, ?_, r1, r4, rw_.put (rd1.up st2.ff), rc⟩ fun b h => h)⟩
  · rw [upd_ne (obj_ne ob').1]; exact h1
  · rw [upd_ne (Ne.symm hne)]; exact h3
/-- self.came[b] = v -/
theorem s_dputC (e : ρ[i]? = some (.o x)) (c : PCls K x.C) (hv : Ev K M tv ρ d) (hy : Ev K M ty ρ (.int (b : Int))) (hl : x.cm.length < 1000) (q : ∀ kc, Φ (.nx (ρ.set i (.o { x with kc := kc, cm := putD x.cm b d })))) : S K M W (sDPut (tFld K (tVar i) "came") ty tv) ρ Φ := fun H0 F0 F H σ D s k1 _ _ _ _ => by
  refine hv F H σ s.st.fh s.sl _ fun d1 v F1 H1 p1 st1 rd1 => ?_
  subst p1
  have s1 := s.step st1
  obtain ⟨e1, hb, hne, h1, h2, h3, r1, r4, rw_, rc⟩ := s1.sl.obj e
  refine ⟨.ref x.a, e1, x.a, x.C, x.dx, _, .ref x.dc, rfl, h1, c.c, c.n3, rfl, hy F1 H1 σ s1.st.fh s1.sl _ fun d2 v2 F2 H2 p2 st2 rd2 => ?_⟩
  subst p2
  rw [rd2.int_]
  have s2 := s1.step st2
  obtain ⟨e1, hb, hne, ob⟩ := s2.sl.obj e
  have ob' := ob
  obtain ⟨h1, h2, h3, r1, r4, rw_, rc⟩ := ob
  refine ⟨x.dc, _, rfl, DPut.k (k := .inl (b : Int)) h3 (small (by rw [rc.len]; omega)), k1 _ _ F2 _ (q _) (s2.mut e e1 (.updO s2.st.fh (.inr (.inr rfl)) (hb _ (.inr (.inr rfl))).1 (obj_nl ob')) ⟨rfl, hb, hne, ?_, ?_, upd_same, r1, r4, rw_, rc.put (rd1.up st2.ff)⟩ fun b h => h)⟩
  · rw [upd_ne (obj_ne ob').2]; exact h1
  · rw [upd_ne hne]; exact h2
/-- self.ring = v -/
theorem s_ringP (e : ρ[i]? = some (.o x)) (c : PCls K x.C) (hv : EvN K M tv ρ P) (q : ∀ v d, P d → Φ (.nx (ρ.set i (.o { x with v4 := v, rg := d })))) : S K M W (sFld K (tVar i) tv "ring") ρ Φ := fun H0 F0 F H σ D s k1 _ _ _ _ => by
  refine hv F H σ s.st.fh s.sl _ fun d1 v F1 H1 p1 st1 rd1 => ?_
  have s1 := s.step st1
  obtain ⟨e1, hb, hne, ob⟩ := s1.sl.obj e
  have ob' := ob
  obtain ⟨h1, h2, h3, r1, r4, rw_, rc⟩ := ob
  refine ⟨.ref x.a, e1, x.a, x.C, x.dx, _, rfl, h1, c.c, c.n4, show 4 < 1000 by decide, ?_⟩
  refine k1 _ _ F1 _ (q v d1 p1) (s1.mut e e1 (.updO s1.st.fh (.inl rfl) (hb _ (.inl rfl)).1 (obj_nl ob')) ⟨rfl, hb, hne, upd_same, ?_, ?_, r1, rd1, rw_, rc⟩ fun b h => h)
  · rw [upd_ne (Ne.symm (obj_ne ob').1)]; exact h2
  · rw [upd_ne (Ne.symm (obj_ne ob').2)]; exact h3
theorem elN_op {r : R2} {ta tb : TE} {A B : PyData → Prop} {PL : List PyData → Prop} (ha : EvN K M ta ρ A) (hb : EvN K M tb ρ B) (ho : ∀ a b, A a → B b → ∃ xs, PL xs ∧ OpL K r a b xs) : ELN K M (tOp r ta tb) ρ PL := fun F H σ s o Q q =>
  ha F H σ s o _ fun a' x F1 H1 pa s1 r1 => hb F1 H1 σ s1.fh (o.step s1) _ fun b' y F2 H2 pb s2 r2 => by
    obtain ⟨xs, hx, ol⟩ := ho a' b' pa pb
    refine ol M F2 H2 x y Q s2.fh (r1.up s2.ff) r2 fun p vs np rv => ?_
    have st := s1.trans o.mp s2
    exact q xs p vs F2 _ hx (st.trans o.mp (.newU s2.fh np)) (s2.fh.free np) (freeBack st o.mp np) upd_same rv
/-! an own dict -/
theorem SlsOk.dic {F H : Hp} {σ : L2.St} (o : SlsOk K M F H ρ σ) (e : ρ[i]? = some (.m ds)) : ∃ a kvs, σ[i]? = some (some (.ref a)) ∧ F a = none ∧ ¬ M a ∧ H a = some (.dK kvs) ∧ RpD K F kvs ds := by
  obtain ⟨w, e1, a, kvs, rfl, h⟩ := o.at_ e
  exact ⟨a, kvs, e1, h⟩
theorem ev_getM (e : ρ[i]? = some (.m ds)) (hy : Ev K M ty ρ (.int (b : Int))) (hf : find ds b = some d) : Ev K M (tDGet (tVar i) ty) ρ d := fun F H σ s o Q q => by
  obtain ⟨a, kvs, e1, fa, ma, ha, r⟩ := o.dic e
  refine ⟨.ref a, e1, hy F H σ s o _ fun d2 v2 F2 H2 p2 st2 rd2 => ?_⟩
  subst p2
  rw [rd2.int_]
  obtain ⟨v, hv, rv⟩ := ((r.up st2.ff).val b).1 d hf
  exact ⟨a, v, rfl, by rw [← hv]; exact DGet.k (k := .inl (b : Int)) (st2.hh _ _ ha ma), q d v F2 H2 rfl st2 rv⟩
theorem ev_ninM (e : ρ[i]? = some (.m ds)) (hy : Ev K M ty ρ (.int (b : Int))) : Ev K M (tDNotIn ty (tVar i)) ρ (.bool (find ds b).isNone) := fun F H σ s o Q q => by
  refine hy F H σ s o _ fun d2 v2 F2 H2 p2 st2 rd2 => ?_
  subst p2
  obtain ⟨a, kvs, e1, fa, ma, ha, r⟩ := (o.step st2).dic e
  rw [rd2.int_]
  refine ⟨.ref a, e1, a, valV kvs (.inl (b : Int)), rfl, DGet.k (k := .inl (b : Int)) ha, ?_⟩
  have e3 : (!(valV kvs (.inl (b : Int) : Key)).isSome) = (find ds b).isNone := by
    cases hf : find ds b with
    | none => rw [(r.val b).2 hf]; rfl
    | some d =>
      obtain ⟨v, hv, _⟩ := (r.val b).1 d hf
      rw [hv]
      rfl
  rw [e3]
  exact q _ _ F2 H2 rfl st2 (.bl _)
theorem s_newM (q : Φ (.nx (ρ.set i (.m [])))) : S K M W (tAsg tDNewK (gName i)) ρ Φ := fun H0 F0 F H σ D s k1 _ _ _ _ => fun p np => by
  have st : Step M F H F (upd H p (.dK [])) := .newU s.st.fh np
  have h0 : H0 p = none := by
    cases e : H0 p with
    | none => rfl
    | some u => exact absurd np (keepN M s.st.hh s.st.pl (s.m0 p) (by rw [e]; exact fun z => nomatch z))
  have mp : ¬ M p := fun m => by
    obtain ⟨x, y, z, e⟩ := s.sl.mp p m
    rw [np] at e
    cases e
  refine k1 _ _ F _ q ((s.step st).setG i (s := .m []) (w := some (.ref p)) ⟨p, [], rfl, s.st.fh.free np, mp, upd_same, .nil⟩ (fun b ow => by cases ow; exact h0) fun j t v b n e1 e2 o1 o2 => ?_)
  cases o2
  exact ((s.sl.ok j t v e1 e2).owned o1).2.2 np
theorem s_dputM (e : ρ[i]? = some (.m ds)) (hv : Ev K M tv ρ d) (hy : Ev K M ty ρ (.int (b : Int))) (hl : ds.length < 1000) (q : Φ (.nx (ρ.set i (.m (putD ds b d))))) : S K M W (sDPut (tVar i) ty tv) ρ Φ := fun H0 F0 F H σ D s k1 _ _ _ _ => by
  refine hv F H σ s.st.fh s.sl _ fun d1 v F1 H1 p1 st1 rd1 => ?_
  subst p1
  have s1 := s.step st1
  obtain ⟨a, kvs, e1, fa, ma, ha, r⟩ := s1.sl.dic e
  refine ⟨.ref a, e1, hy F1 H1 σ s1.st.fh s1.sl _ fun d2 v2 F2 H2 p2 st2 rd2 => ?_⟩
  subst p2
  rw [rd2.int_]
  have s2 := s1.step st2
  have fa2 := st2.nf a (by rw [ha]; exact fun z => nomatch z) fa
  have ha2 := st2.hh _ _ ha ma
  refine ⟨a, _, rfl, DPut.k (k := .inl (b : Int)) ha2 (small (by rw [r.len]; omega)), k1 _ _ F2 _ q (s2.mut e e1 (.updO s2.st.fh rfl fa2 ?_) ⟨a, _, rfl, fa2, ma, upd_same, (r.up st2.ff).put (rd1.up st2.ff)⟩ fun b h => h)⟩
  intro b hb
  cases (show some (V.ref a) = some (V.ref b) from hb)
  rintro ⟨x, y, z, e⟩
  rw [ha2] at e
  cases e
/-- here = list.pop(0) -/
theorem s_pop0 {j : Nat} {y : PyData} {ys : List PyData} (e : ρ[i]? = some (.l (y :: ys))) (q : Φ (.nx ((ρ.set i (.l ys)).set j (.d y)))) : S K M W (tAsg (tBM K "list" rPopAt (tVar i) (tCons (tC (.int 0)) tNil)) (gName j)) ρ Φ := fun H0 F0 F H σ D s k1 _ _ _ _ => by
  obtain ⟨a, vs, e2, fa, ma, ha, r⟩ := s.sl.own e
  cases r with
  | @cons v vs' _ _ r1 r2 =>
    refine ⟨.ref a, e2, .inl ⟨rfl, _, .of ha⟩, a, v :: vs', 0, 0, v, rfl, rfl, ha, by decide, by decide, ?_, rfl, ?_⟩
    · unfold seqIndex?
      simp
    · exact k1 _ _ F _ q ((s.putL e e2 fa ma r2).setD j r1)
/-! ### methods -/
/-- a method that reads the object and gives a new list -/
def spRO (K : PySem.W.Frag) (C : Addr) (R : Ob → List PyData → (List PyData → Prop) → Prop) : Sp := fun vs H Q _ => ∃ (F : Hp) (x : Ob) (us : List V) (ds : List PyData) (Pd : List PyData → Prop), vs = .ref x.a :: us ∧ x.C = C ∧ Same F H ∧ (∀ b, x.has b → F b = none) ∧ x.dw ≠ x.dc ∧ ObOk K F H x ∧ RpA K F us ds ∧ R x ds Pd ∧
  ∀ xs l vs' F' H', Pd xs → Step (fun _ => False) F H F' H' → F' l = none → H l = none → H' l = some (.lst vs') → RpA K F' vs' xs → Q (.ref l) H'
theorem elN_meth {C : Addr} {m : Str} {R : Ob → List PyData → (List PyData → Prop) → Prop} {PA : List PyData → Prop} {PL : List PyData → Prop} (e : ρ[i]? = some (.o x)) (hC : x.C = C) (hm : ∀ v1 v2 v3 v4 : V, ([("sightings", v1), ("weights", v2), ("came", v3), ("ring", v4)] : List (Str × V)).lookup m = none) (ha : AN K M tA ρ PA) (ho : ∀ ds, PA ds → ∃ Pd, R x ds Pd ∧ ∀ xs, Pd xs → PL xs) :
    ELN K M (tMeth C m (spRO K C R) [] W (tVar i) tA) ρ PL := fun F H σ s o Q q => by
  obtain ⟨e1, hb, hne, ob⟩ := o.obj e
  refine ⟨.ref x.a, e1, x.a, x.dx, _, rfl, by rw [← hC]; exact ob.1, hm _ _ _ _, ha F H σ s o _ fun ds vs F1 H1 p st r => ?_⟩
  obtain ⟨Pd, hR, hP⟩ := ho ds p
  obtain ⟨e1', hb', hne', ob'⟩ := (o.step st).obj e
  refine ⟨F1, x, vs, ds, Pd, by rw [List.append_nil], hC, st.fh, fun b h => (hb' b h).1, hne', ob', r, hR, fun xs l vs' F' H' px st' fl hl hl' r' => ?_⟩
  exact q xs l vs' F' H' (hP xs px) (st.trans o.mp st'.weak) fl (freeBack st o.mp hl) hl' r'
end
end PD
/-! PD10: methods of the object: their entry and their end -/
namespace PD
open PySem PySem.Spec PyProof.Rows L2
section
variable {K : PySem.W.Frag} {M : Addr → Prop} {W : XK} {ρ : List Sl} {t u : TS} {x : Ob} {Φ : Out → Prop}
theorem seq_run {J : List Sl → Prop} {H0 F0 F H : Hp} {σ : L2.St} {D : Ends} (h : S K M W t ρ (fun o => ∃ ρ', o = .nx ρ' ∧ J ρ')) (s : SSt K M H0 F0 F H ρ σ) (k : ∀ ρ' σ' F' H', J ρ' → SSt K M H0 F0 F' H' ρ' σ' → u D σ' H') : tSeq t u D σ H := by
  refine h H0 F0 F H σ { D with nx := u D } s (fun ρ' σ' F' H' e s' => ?_) (fun d v F' H' e st rv => ?_) (fun ρ' σ' F' H' e s' => ?_) (fun ρ' σ' F' H' e s' => ?_) (fun C dd F' H' e st => ?_)
  · obtain ⟨ρ2, z, j⟩ := e
    cases z
    exact k _ _ _ _ j s'
  · obtain ⟨_, z, _⟩ := e; cases z
  · obtain ⟨_, z, _⟩ := e; cases z
  · obtain ⟨_, z, _⟩ := e; cases z
  · obtain ⟨_, z, _⟩ := e; cases z
/-- the heap without the object -/
def hide (x : Ob) (H : Hp) : Hp := fun b => if b = x.a ∨ b = x.dw ∨ b = x.dc then none else H b
theorem hide_has {H : Hp} {b : Addr} (h : x.has b) : hide x H b = none := if_pos h
theorem hide_not {H : Hp} {b : Addr} (h : ¬ x.has b) : hide x H b = H b := if_neg h
def initO (N : List Str) (x : Ob) (ds : List PyData) : List Sl := .o x :: (ds.map .d ++ List.replicate (N.length - (ds.length + 1)) .u)
theorem initO_ok {F H : Hp} {N : List Str} {vs : List V} {ds : List PyData} (s : Same F H) (r : RpA K F vs ds) (hf : ∀ b, x.has b → F b = none) (hne : x.dw ≠ x.dc) (ob : ObOk K F H x) : SSt K (fun _ => False) (hide x H) F F H (initO N x ds) (L2.start N (.ref x.a :: vs)) := by
  have key : ∀ {i : Nat} {t : Sl}, (initO N x ds)[i]? = some t → (i = 0 ∧ t = .o x) ∨ t = .u ∨ ∃ d, t = .d d := fun {i t} e => by
    unfold initO at e
    cases i with
    | zero => simp at e; exact .inl ⟨rfl, e.symm⟩
    | succ i =>
      rw [List.getElem?_cons_succ] at e
      rcases List.mem_append.mp (List.mem_of_getElem? e) with h | h
      · obtain ⟨d, _, rfl⟩ := List.mem_map.mp h
        exact .inr (.inr ⟨d, rfl⟩)
      · exact .inr (.inl (List.eq_of_mem_replicate h))
  refine ⟨⟨?_, fun i t w e1 e2 => ?_, fun b m => m.elim⟩, ⟨.refl _, s, fun b o e _ => ?_, fun _ _ e => e, fun _ m => m.elim⟩, fun b m => m.elim, fun i t w b e1 _ ow => ?_, fun i j t u v w b e1 _ e3 _ o1 o2 => ?_⟩
  · unfold L2.start initO
    simp only [List.length_append, List.length_map, List.length_replicate, List.length_cons, r.length]
    omega
  · unfold initO at e1
    unfold L2.start at e2
    cases i with
    | zero =>
      simp at e1 e2
      subst e1 e2
      exact ⟨rfl, fun b h => ⟨hf b h, id⟩, hne, ob⟩
    | succ i =>
      simp only [List.map_cons, List.cons_append, List.getElem?_cons_succ] at e1 e2
      by_cases hi : i < ds.length
      · rw [List.getElem?_append_left (by simpa using hi), List.getElem?_map] at e1
        rw [List.getElem?_append_left (by rw [List.length_map, r.length]; exact hi), List.getElem?_map] at e2
        obtain ⟨v, hv, rv⟩ := r.get (List.getElem?_eq_getElem hi)
        rw [List.getElem?_eq_getElem hi] at e1
        rw [hv] at e2
        cases e1
        cases e2
        exact ⟨v, rfl, rv⟩
      · rw [List.getElem?_append_right (by simpa using hi), List.getElem?_replicate] at e1
        split at e1
        · cases e1
          trivial
        · cases e1
  · by_cases hb : x.has b
    · rw [hide_has hb] at e; cases e
    · rw [hide_not hb] at e; exact e
  · rcases key e1 with ⟨_, z⟩ | z | ⟨d, z⟩ <;> subst z
    · exact hide_has ow
    · exact ow.elim
    · exact ow.elim
  · rcases key e1 with ⟨z0, z⟩ | z | ⟨d, z⟩ <;> subst z
    · rcases key e3 with ⟨z1, z⟩ | z | ⟨d, z⟩ <;> subst z
      · rw [z0, z1]
      · exact o2.elim
      · exact o2.elim
    · exact o1.elim
    · exact o1.elim
/-- the object as it was -/
theorem ro_step {F0 F' H H' : Hp} {ρ' : List Sl} {σ' : L2.St} (s : SSt K (fun _ => False) (hide x H) F0 F' H' ρ' σ') (e : ρ'[0]? = some (.o x)) (ob : ObOk K F0 H x) : Step (fun _ => False) F0 H F' H' := by
  obtain ⟨e1, hb, hne, ob'⟩ := s.sl.obj e
  refine ⟨s.st.ff, s.st.fh, fun b o q _ => ?_, fun b hbn f => ?_, fun b m => m.elim⟩
  · by_cases h : x.has b
    · obtain ⟨h1, h2, h3, _⟩ := ob
      obtain ⟨g1, g2, g3, _⟩ := ob'
      rcases h with rfl | rfl | rfl
      · rw [h1] at q; rw [g1]; exact q
      · rw [h2] at q; rw [g2]; exact q
      · rw [h3] at q; rw [g3]; exact q
    · exact s.st.hh b o (by rw [hide_not h]; exact q) id
  · by_cases h : x.has b
    · exact (hb b h).1
    · exact s.st.nf b (by rw [hide_not h]; exact hbn) f
/-- the object may have changed -/
theorem rw_step {x' : Ob} {F0 F' H H' : Hp} {ρ' : List Sl} {σ' : L2.St} (s : SSt K (fun _ => False) (hide x H) F0 F' H' ρ' σ') (e : ρ'[0]? = some (.o x')) (hx : ∀ b, x'.has b ↔ x.has b) (ob : ObOk K F0 H x) : Step x.has F0 H F' H' := by
  obtain ⟨e1, hb, hne, ob'⟩ := s.sl.obj e
  refine ⟨s.st.ff, s.st.fh, fun b o q h => s.st.hh b o (by rw [hide_not h]; exact q) id, fun b hbn f => ?_, fun b m p => (obj_nl ob b m p).elim⟩
  by_cases h : x.has b
  · exact (hb b ((hx b).mpr h)).1
  · exact s.st.nf b (by rw [hide_not h]; exact hbn) f
/-- an own list beside the object -/
theorem ro_own {x' : Ob} {F0 F' H H' : Hp} {ρ' : List Sl} {σ' : L2.St} (s : SSt K (fun _ => False) (hide x H) F0 F' H' ρ' σ') (e : ρ'[0]? = some (.o x')) (hx : ∀ b, x'.has b ↔ x.has b) {i : Nat} {xs : List PyData} (hi : i ≠ 0) (ei : ρ'[i]? = some (.l xs)) : ∃ l vs, σ'[i]? = some (some (.ref l)) ∧ F' l = none ∧ H l = none ∧ ¬ x.has l ∧ H' l = some (.lst vs) ∧ RpA K F' vs xs := by
  obtain ⟨l, vs, e2, fl, _, hl, r⟩ := s.sl.own ei
  obtain ⟨e1, hb, hne, ob'⟩ := s.sl.obj e
  have h0 := s.own i _ _ l ei e2 rfl
  have nh : ¬ x.has l := fun h => hi (s.dis i 0 _ _ _ _ l ei e2 e e1 rfl ((hx l).mpr h))
  rw [hide_not nh] at h0
  exact ⟨l, vs, e2, fl, h0, nh, hl, r⟩
/-- return of an own list -/
theorem ro_ret {F0 F' H H' : Hp} {ρ' : List Sl} {σ' : L2.St} {D : Ends} (s : SSt K (fun _ => False) (hide x H) F0 F' H' ρ' σ') (e : ρ'[0]? = some (.o x)) (ob : ObOk K F0 H x) {i : Nat} {xs : List PyData} (hi : i ≠ 0) (ei : ρ'[i]? = some (.l xs))
    (q : ∀ l vs', Step (fun _ => False) F0 H F' H' → F' l = none → H l = none → H' l = some (.lst vs') → RpA K F' vs' xs → D.rt (.ref l) H') : tRet (tVar i) D σ' H' := by
  obtain ⟨l, vs, e2, fl, hl, nh, hl', r⟩ := ro_own s e (fun _ => Iff.rfl) hi ei
  exact ⟨.ref l, e2, q l vs (ro_step s e ob) fl hl hl' r⟩
end
section
variable {P : Program} {w : World} {K : PySem.W.Frag} {mg : Str → Option Value} {base : Heap}
theorem ok_defRO {CX : CXT} {y qual : Str} {params : Arguments} {body : List Stmt} {scope : Scope} {dvs : List V} {kws : List (Str × V)} {f C : Addr} {fd : FuncData} {N ps : List Str} {k : Nat} {R : Ob → List PyData → (List PyData → Prop) → Prop}
    (F : FunD K y qual params body scope dvs kws f fd) (Sc : FnScope N ps scope) (hl : ∀ x ds Pd, R x ds Pd → ds.length + 1 = ps.length)
    (h : ∀ (cdv : Value) (A : Around) (outer : List Env) (s : Shared) (H : Hp) (W : XK), Room k (A.deeper (envOfC qual scope s.heap.objs.size f cdv)) →
      ∃ t, PSs (cxOf CX P w K mg base N qual scope f cdv A outer s H W) body t ∧ ∀ (x : Ob) ds Pd (Fz : Hp) (σ : L2.St) (D : Ends), x.C = C → R x ds Pd → SSt K (fun _ => False) (hide x H) Fz Fz H (initO N x ds) σ → ObOk K Fz H x →
        (∀ xs l vs' F' H', Pd xs → Step (fun _ => False) Fz H F' H' → F' l = none → H l = none → H' l = some (.lst vs') → RpA K F' vs' xs → D.rt (.ref l) H') → t D σ H) :
    FnOk P w K mg base CX (k + 1) f fd ps (spRO K C R) := by
  refine F.ok Sc (fun vs H Q W hs => ?_) (fun cdv A outer s H vs Q W hr hs => ?_)
  · obtain ⟨Fz, x, us, ds, Pd, rfl, _, _, _, _, _, r, hR, _⟩ := hs
    rw [List.length_cons, r.length]
    exact hl x ds Pd hR
  · obtain ⟨t, ht, hS⟩ := h cdv A outer s H W hr
    obtain ⟨Fz, x, us, ds, Pd, rfl, hC, sm, hf, hne, ob, r, hR, q⟩ := hs
    exact ⟨t, ht, hS x ds Pd Fz _ _ hC hR (initO_ok sm r hf hne ob) ob q⟩
end
end PD
/-! PD11: a walk through the object's first dict -/
namespace PD
open PySem PySem.Spec PyProof.Rows L2
section
variable {K : PySem.W.Frag} {M : Addr → Prop} {W : XK} {ρ : List Sl} {te tv ty tj : TE} {tA : TA} {t u : TS} {g : TG} {d : PyData} {P : PyData → Prop} {Φ : Out → Prop} {i b : Nat} {x : Ob}
/-- the base while the dict at x.dw is locked -/
def lockB (x : Ob) (od : Obj) (H0 H : Hp) : Hp := fun b => if b = x.dw then some (.frz od (.dK x.kw)) else if b = x.a ∨ b = x.dc then H b else H0 b
theorem lockB_dw {od : Obj} {H0 H : Hp} : lockB x od H0 H x.dw = some (.frz od (.dK x.kw)) := if_pos rfl
theorem lockB_not {od : Obj} {H0 H : Hp} {b : Addr} (h : ¬ x.has b) : lockB x od H0 H b = H0 b := by
  unfold lockB
  rw [if_neg (fun z => h (.inr (.inl z))), if_neg (fun z => h (z.elim .inl fun z => .inr (.inr z)))]
theorem SSt.lock {H0 F0 F H : Hp} {σ : L2.St} (s : SSt K M H0 F0 F H ρ σ) (e : ρ[i]? = some (.o x)) (od : Obj) : SSt K M (lockB x od H0 H) F0 F (upd H x.dw (.frz od (.dK x.kw))) (ρ.set i (.k (.ref x.a))) σ := by
  obtain ⟨e1, hb, hne, ob⟩ := s.sl.obj e
  have ob' := ob
  obtain ⟨h1, h2, h3, _⟩ := ob
  obtain ⟨n1, n2⟩ := obj_ne ob'
  have ne : ∀ b, b ≠ x.dw → upd H x.dw (.frz od (.dK x.kw)) b = H b := fun b hb => upd_ne hb
  have np : ∀ b, M b → IsPool H b → IsPool (upd H x.dw (.frz od (.dK x.kw))) b := fun b m ⟨p, q, r, e⟩ => ⟨p, q, r, by rw [ne b fun z => (hb b (.inr (.inl z))).2 m]; exact e⟩
  have back : ∀ {j : Nat} {t : Sl} {v : Option V} {b : Addr}, (ρ.set i (.k (.ref x.a)))[j]? = some t → Owns t v b → j ≠ i ∧ ρ[j]? = some t := fun {j t v b} q ow => by
    rcases set_inv q with ⟨_, z⟩ | ⟨n, q⟩
    · subst z; exact ow.elim
    · exact ⟨fun z => n z.symm, q⟩
  have nh : ∀ {j : Nat} {t : Sl} {v : Option V} {b : Addr}, j ≠ i → ρ[j]? = some t → σ[j]? = some v → Owns t v b → ¬ x.has b := fun {j t v b} hj q1 q2 ow h => hj (s.dis j i t (.o x) v _ b q1 q2 e e1 ow h)
  refine ⟨⟨by rw [List.length_set]; exact s.sl.len, fun j t v q1 q2 => ?_, fun b m => np b m (s.sl.mp b m)⟩, ⟨s.st.ff, fun b o q => ?_, fun b o q m => ?_, fun b hbn f => ?_, fun b m q => ?_⟩, fun b m => ?_, fun j t v b q1 q2 ow => ?_, fun j k t u v w b q1 q2 q3 q4 o1 o2 => ?_⟩
  · rcases set_inv q1 with ⟨z, y⟩ | ⟨n, y⟩
    · subst z
      subst y
      rw [e1] at q2
      cases q2
      rfl
    · exact (s.sl.ok j t v y q2).keep (.refl _) (fun b _ f _ => f) (fun b o ow q => by rw [ne b fun z => nh (fun z => n z.symm) y q2 ow (.inr (.inl z))]; exact q) np
  · rw [ne b fun z => by rw [z, (hb _ (.inr (.inl rfl))).1] at q; cases q]
    exact s.st.fh b o q
  · unfold lockB at q
    by_cases c : b = x.dw
    · rw [if_pos c] at q
      rw [c, upd_same]
      exact q
    · rw [if_neg c] at q
      rw [ne b c]
      by_cases c2 : b = x.a ∨ b = x.dc
      · rw [if_pos c2] at q; exact q
      · rw [if_neg c2] at q
        exact s.st.hh b o q m
  · by_cases h : x.has b
    · exact (hb b h).1
    · rw [lockB_not h] at hbn
      exact s.st.nf b hbn f
  · have h : ¬ x.has b := fun h => (hb b h).2 m
    have q : IsPool H0 b := by
      obtain ⟨p, r, z, q⟩ := q
      rw [lockB_not h] at q
      exact ⟨p, r, z, q⟩
    exact np b m (s.st.pl b m q)
  · have h : ¬ x.has b := fun h => (hb b h).2 m
    obtain ⟨p, r, z, q⟩ := s.m0 b m
    exact ⟨p, r, z, by rw [lockB_not h]; exact q⟩
  · obtain ⟨hj, y⟩ := back q1 ow
    rw [lockB_not (nh hj y q2 ow)]
    exact s.own j t v b y q2 ow
  · exact s.dis j k t u v w b (back q1 o1).2 q2 (back q3 o2).2 q4 o1 o2
theorem SSt.unlock {H0 F0 F H F' H' : Hp} {σ σ' : L2.St} {ρ' : List Sl} {od : Obj} (s : SSt K M H0 F0 F H ρ σ) (e : ρ[i]? = some (.o x)) (sf : Same F F') (s' : SSt K M (lockB x od H0 H) F0 F' H' ρ' σ') (e' : ρ'[i]? = some (.k (.ref x.a))) :
    SSt K M H0 F0 F' (upd H' x.dw (.dK x.kw)) (ρ'.set i (.o x)) σ' := by
  obtain ⟨e1, hb, hne, ob⟩ := s.sl.obj e
  have ob' := ob
  obtain ⟨h1, h2, h3, r1, r4, rw_, rc⟩ := ob
  obtain ⟨n1, n2⟩ := obj_ne ob'
  have l1 : lockB x od H0 H x.a = H x.a := by
    unfold lockB
    rw [if_neg n1, if_pos (.inl rfl)]
  have l3 : lockB x od H0 H x.dc = H x.dc := by
    unfold lockB
    rw [if_neg (Ne.symm hne), if_pos (.inr rfl)]
  have lh : ∀ b, x.has b → lockB x od H0 H b ≠ none := by
    rintro b (rfl | rfl | rfl)
    · rw [l1, h1]; exact fun z => nomatch z
    · rw [lockB_dw]; exact fun z => nomatch z
    · rw [l3, h3]; exact fun z => nomatch z
  have hf' : ∀ b, x.has b → F' b = none := fun b h => s'.st.nf b (lh b h) (by
    cases q : F0 b with
    | none => rfl
    | some o =>
      have := s.st.ff b o q
      rw [(hb b h).1] at this
      cases this)
  have ne : ∀ b, b ≠ x.dw → upd H' x.dw (.dK x.kw) b = H' b := fun b hb => upd_ne hb
  have np : ∀ b, M b → IsPool H' b → IsPool (upd H' x.dw (.dK x.kw)) b := fun b m ⟨p, q, r, e⟩ => ⟨p, q, r, by rw [ne b fun z => (hb b (.inr (.inl z))).2 m]; exact e⟩
  have nh : ∀ {j : Nat} {t : Sl} {v : Option V} {b : Addr}, ρ'[j]? = some t → σ'[j]? = some v → Owns t v b → ¬ x.has b := fun {j t v b} q1 q2 ow h => lh b h (s'.own j t v b q1 q2 ow)
  have ei : σ'[i]? = some (some (.ref x.a)) := by
    obtain ⟨w, q, r⟩ := s'.sl.at_ e'
    cases (show w = some (.ref x.a) from r)
    exact q
  have h0 : ∀ b, x.has b → H0 b = none := fun b h => s.own i _ _ b e e1 h
  refine ⟨⟨by rw [List.length_set]; exact s'.sl.len, fun j t v q1 q2 => ?_, fun b m => np b m (s'.sl.mp b m)⟩, ⟨s'.st.ff, fun b o q => ?_, fun b o q m => ?_, fun b hbn f => ?_, fun b m q => ?_⟩, s.m0, fun j t v b q1 q2 ow => ?_, fun j k t u v w b q1 q2 q3 q4 o1 o2 => ?_⟩
  · rcases set_inv q1 with ⟨z, y⟩ | ⟨n, y⟩
    · subst z
      subst y
      rw [ei] at q2
      cases q2
      refine ⟨rfl, fun b h => ⟨hf' b h, (hb b h).2⟩, hne, ?_, upd_same, ?_, r1.up sf, r4.up sf, rw_.up sf, rc.up sf⟩
      · rw [ne _ n1]
        exact s'.st.hh _ _ (by rw [l1]; exact h1) (hb _ (.inl rfl)).2
      · rw [ne _ (Ne.symm hne)]
        exact s'.st.hh _ _ (by rw [l3]; exact h3) (hb _ (.inr (.inr rfl))).2
    · exact (s'.sl.ok j t v y q2).keep (.refl _) (fun b _ f _ => f) (fun b o ow q => by rw [ne b fun z => nh y q2 ow (.inr (.inl z))]; exact q) np
  · rw [ne b fun z => by rw [z, hf' _ (.inr (.inl rfl))] at q; cases q]
    exact s'.st.fh b o q
  · have h : ¬ x.has b := fun h => by rw [h0 b h] at q; cases q
    rw [ne b fun z => h (.inr (.inl z))]
    exact s'.st.hh b o (by rw [lockB_not h]; exact q) m
  · have h : ¬ x.has b := fun h => hbn (h0 b h)
    exact s'.st.nf b (by rw [lockB_not h]; exact hbn) f
  · have h : ¬ x.has b := fun h => (hb b h).2 m
    obtain ⟨p, r, z, q⟩ := q
    exact np b m (s'.st.pl b m ⟨p, r, z, by rw [lockB_not h]; exact q⟩)
  · rcases set_inv q1 with ⟨z, y⟩ | ⟨n, y⟩
    · subst y
      exact h0 b ow
    · have := s'.own j t v b y q2 ow
      rw [lockB_not (nh y q2 ow)] at this
      exact this
  · rcases set_inv q1 with ⟨z1, y1⟩ | ⟨m1, y1⟩ <;> rcases set_inv q3 with ⟨z3, y3⟩ | ⟨m3, y3⟩
    · rw [← z1, ← z3]
    · subst y1
      exact (nh y3 q4 o2 o1).elim
    · subst y3
      exact (nh y1 q2 o1 o2).elim
    · exact s'.dis j k t u v w b y1 q2 y3 q4 o1 o2
theorem RpD.getV {F : Hp} : ∀ {kvs : List (Key × V)} {ds : List (Nat × PyData)} {k : Nat} {q : Key} {v : V}, RpD K F kvs ds → kvs[k]? = some (q, v) → ∃ y, ds[k]? = some y ∧ q = .inl (y.1 : Int) ∧ Rp K F v y.2
  | [], _, _, _, _, _, e => by cases e
  | kv :: kvs, _, k, q, v, h, e => by
    obtain ⟨y, ds', rfl, e1, r, h'⟩ := h.cons_inv
    cases k with
    | zero => cases e; exact ⟨y, rfl, e1, r⟩
    | succ k =>
      obtain ⟨z, h1, h2⟩ := RpD.getV h' (k := k) (by simpa using e)
      exact ⟨z, by simpa using h1, h2⟩
/-- for v in self.weights.values() -/
theorem s_forV (e : ρ[i]? = some (.o x)) (c : PCls K x.C) (J : Nat → List Sl → Prop) (h0 : J 0 (ρ.set i (.k (.ref x.a)))) (hi : ∀ k ρ', J k ρ' → ρ'[i]? = some (.k (.ref x.a))) (hg : ∀ (k : Nat) (y : Nat × PyData) (ρ' : List Sl), x.wt[k]? = some y → J k ρ' → ∃ ρ2, Tg K M g ρ' y.2 ρ2 ∧ S K M W t ρ2 (fun o => ∃ ρ3, o = .nx ρ3 ∧ J (k + 1) ρ3)) (hd : ∀ ρ', J x.wt.length ρ' → Φ (.nx (ρ'.set i (.o x)))) :
    S K M W (tLock (tFor (iVals (tFld K (tVar i) "weights")) g t)) ρ Φ := fun H0 F0 F H σ D s k1 k2 k3 k4 k5 => by
  obtain ⟨e1, hb, hne, ob⟩ := s.sl.obj e
  have ob' := ob
  obtain ⟨h1, h2, h3, r1, r4, rw_, rc⟩ := ob
  obtain ⟨n1, n2⟩ := obj_ne ob'
  refine ⟨x.dw, .dK x.kw, h2, trivial, fun od => ?_⟩
  have sl := s.lock e od
  refine ⟨.ref x.a, e1, x.a, x.C, x.dx, _, .ref x.dw, rfl, by rw [upd_ne n1]; exact h1, c.c, c.n2, rfl, x.dw, od, x.kw, rfl, upd_same, ?_⟩
  have fz : ∀ {F' H' ρ' σ'}, SSt K M (lockB x od H0 H) F F' H' ρ' σ' → H' x.dw = some (.frz od (.dK x.kw)) := fun s' => s'.st.hh _ _ lockB_dw (hb _ (.inr (.inl rfl))).2
  refine ⟨fun k m σ' H' => m = x.kw.length - k ∧ k ≤ x.kw.length ∧ ∃ F' ρ', J k ρ' ∧ SSt K M (lockB x od H0 H) F F' H' ρ' σ', ⟨x.kw.length, by simp, Nat.zero_le _, F, _, h0, sl.base⟩, ?_⟩
  rintro k m σ' H' ⟨rfl, hk, F', ρ', j, s'⟩
  by_cases hlt : k < x.kw.length
  · refine .inr ⟨⟨fz s', hlt⟩, fun σ' H' => ∃ F' ρ', J (k + 1) ρ' ∧ SSt K M (lockB x od H0 H) F F' H' ρ' σ', fun σ' H' p' => ⟨x.kw.length - (k + 1), by omega, rfl, hlt, p'⟩, fun v H2 y => ?_⟩
    obtain ⟨rfl, q, hq⟩ := y
    obtain ⟨y, hy, _, ry⟩ := rw_.getV hq
    obtain ⟨ρ2, htg, hS⟩ := hg k y ρ' hy j
    refine htg _ F F' H2 σ' v _ s' (ry.up s'.st.ff) fun σ2 s2 => ?_
    refine hS _ F F' H2 σ2 _ s2 (fun ρ3 σ3 F3 H3 q s3 => ?_) (fun d v F3 H3 q st3 r3 => ?_) (fun ρ3 σ3 F3 H3 q s3 => ?_) (fun ρ3 σ3 F3 H3 q s3 => ?_) (fun C dd F3 H3 q st3 => ?_)
    · obtain ⟨ρ4, z, j4⟩ := q
      cases z
      exact ⟨F3, _, j4, s3⟩
    · obtain ⟨_, z, _⟩ := q; cases z
    · obtain ⟨_, z, _⟩ := q; cases z
    · obtain ⟨_, z, _⟩ := q; cases z
    · obtain ⟨_, z, _⟩ := q; cases z
  · have ek : k = x.kw.length := by omega
    subst ek
    rw [rw_.len] at j
    exact .inl ⟨⟨fz s', Nat.le_refl _⟩, fz s', k1 _ _ F' _ (hd ρ' j) (s.unlock e s'.st.ff (s'.unbase sl.st) (hi _ _ j))⟩
/-- for b, v in self.weights.items() -/
theorem s_forI (e : ρ[i]? = some (.o x)) (c : PCls K x.C) (J : Nat → List Sl → Prop) (h0 : J 0 (ρ.set i (.k (.ref x.a)))) (hi : ∀ k ρ', J k ρ' → ρ'[i]? = some (.k (.ref x.a))) (hg : ∀ (k : Nat) (y : Nat × PyData) (ρ' : List Sl), x.wt[k]? = some y → J k ρ' → ∃ ρ2, Tg K M g ρ' (.tuple [.int (y.1 : Int), y.2]) ρ2 ∧ S K M W t ρ2 (fun o => ∃ ρ3, o = .nx ρ3 ∧ J (k + 1) ρ3)) (hd : ∀ ρ', J x.wt.length ρ' → Φ (.nx (ρ'.set i (.o x)))) :
    S K M W (tLock (tFor (iItems (tFld K (tVar i) "weights")) g t)) ρ Φ := fun H0 F0 F H σ D s k1 k2 k3 k4 k5 => by
  obtain ⟨e1, hb, hne, ob⟩ := s.sl.obj e
  have ob' := ob
  obtain ⟨h1, h2, h3, r1, r4, rw_, rc⟩ := ob
  obtain ⟨n1, n2⟩ := obj_ne ob'
  refine ⟨x.dw, .dK x.kw, h2, trivial, fun od => ?_⟩
  have sl := s.lock e od
  refine ⟨.ref x.a, e1, x.a, x.C, x.dx, _, .ref x.dw, rfl, by rw [upd_ne n1]; exact h1, c.c, c.n2, rfl, x.dw, od, x.kw, rfl, upd_same, ?_⟩
  have fz : ∀ {F' H' ρ' σ'}, SSt K M (lockB x od H0 H) F F' H' ρ' σ' → H' x.dw = some (.frz od (.dK x.kw)) := fun s' => s'.st.hh _ _ lockB_dw (hb _ (.inr (.inl rfl))).2
  refine ⟨fun k m σ' H' => m = x.kw.length - k ∧ k ≤ x.kw.length ∧ ∃ F' ρ', J k ρ' ∧ SSt K M (lockB x od H0 H) F F' H' ρ' σ', ⟨x.kw.length, by simp, Nat.zero_le _, F, _, h0, sl.base⟩, ?_⟩
  rintro k m σ' H' ⟨rfl, hk, F', ρ', j, s'⟩
  by_cases hlt : k < x.kw.length
  · refine .inr ⟨⟨fz s', hlt⟩, fun σ' H' => ∃ F' ρ', J (k + 1) ρ' ∧ SSt K M (lockB x od H0 H) F F' H' ρ' σ', fun σ' H' p' => ⟨x.kw.length - (k + 1), by omega, rfl, hlt, p'⟩, fun v H2 y => ?_⟩
    obtain ⟨T, q, vv, hq, rfl, nT, rfl⟩ := y
    obtain ⟨y, hy, rfl, ry⟩ := rw_.getV hq
    obtain ⟨ρ2, htg, hS⟩ := hg k y ρ' hy j
    have stn : Step M F' H' (upd F' T (.tup [kV (.inl (y.1 : Int)), vv])) (upd H' T (.tup [kV (.inl (y.1 : Int)), vv])) := .new s'.st.fh nT
    have s2 := s'.step stn
    refine htg _ F _ _ σ' _ _ s2 (.tup (.inl (.inl upd_same)) (.cons (.int _) (.cons (ry.up (s'.st.ff.trans stn.ff)) .nil))) fun σ2 s2 => ?_
    refine hS _ F _ _ σ2 _ s2 (fun ρ3 σ3 F3 H3 q s3 => ?_) (fun d v F3 H3 q st3 r3 => ?_) (fun ρ3 σ3 F3 H3 q s3 => ?_) (fun ρ3 σ3 F3 H3 q s3 => ?_) (fun C dd F3 H3 q st3 => ?_)
    · obtain ⟨ρ4, z, j4⟩ := q
      cases z
      exact ⟨F3, _, j4, s3⟩
    · obtain ⟨_, z, _⟩ := q; cases z
    · obtain ⟨_, z, _⟩ := q; cases z
    · obtain ⟨_, z, _⟩ := q; cases z
    · obtain ⟨_, z, _⟩ := q; cases z
  · have ek : k = x.kw.length := by omega
    subst ek
    rw [rw_.len] at j
    exact .inl ⟨⟨fz s', Nat.le_refl _⟩, fz s', k1 _ _ F' _ (hd ρ' j) (s.unlock e s'.st.ff (s'.unbase sl.st) (hi _ _ j))⟩
end
end PD
/-! D7: parts: what the search keeps -/
namespace K57
open PySem PySem.Spec PyProof.Rows L2 PD M
abbrev Wt := List (Nat × Rat)
abbrev Cm := List (Nat × Option (Nat × Nat × Nat))
def encC : Option (Nat × Nat × Nat) → PyData
  | none => .none
  | some c => .tuple [.int (c.1 : Int), .int (c.2.1 : Int), .int (c.2.2 : Int)]
def encWt (l : Wt) : List (Nat × PyData) := l.map fun x => (x.1, encR x.2)
def encCm (l : Cm) : List (Nat × PyData) := l.map fun x => (x.1, encC x.2)
def encRg : Option (List Pr2) → PyData
  | none => .none
  | some r => .list (r.map encP)
/-- the object as data -/
structure ObIs (x : Ob) (C : Addr) (ss : List Sg) (l : Wt) (c : Cm) (r : Option (List Pr2)) : Prop where
  C : x.C = C
  ss : x.ss = .list (ss.map encS)
  wt : x.wt = encWt l
  cm : x.cm = encCm c
  rg : x.rg = encRg r
/-- the weight told of a ball -/
def Has (l : Wt) (b : Nat) (q : Rat) : Prop := (b, q) ∈ l
structure PI (ss : List Sg) (n b0 : Nat) (l : Wt) (c : Cm) : Prop where
  good : ∀ s ∈ ss, Good n s
  keys : c.map (·.1) = l.map (·.1)
  nd : (l.map (·.1)).Nodup
  lt : ∀ x ∈ l, x.1 < n
  root : l[0]? = some (b0, 1) ∧ c[0]? = some (b0, none)
  tree : ∀ (m k : Nat) (q : Rat), l[m + 1]? = some (k, q) → ∃ (sn wy bf m' : Nat) (qb sh : Rat), c[m + 1]? = some (k, some (sn, wy, bf)) ∧ sn < ss.length ∧ wy < 2 ∧ m' ≤ m ∧ l[m']? = some (bf, qb) ∧ stepBy ss (sn, wy) = (bf, k, sh) ∧ q = qb * sh
  sm : ∀ (m k : Nat) (q : Rat), l[m]? = some (k, q) → Sm (11 * (m + 1)) q ∧ 0 < q
theorem find_of {α : Type} {l : List (Nat × α)} {f : α → PyData} (nd : (l.map (·.1)).Nodup) {b : Nat} {a : α} (h : (b, a) ∈ l) : find (l.map fun x => (x.1, f x.2)) b = some (f a) := by
  induction l with
  | nil => cases h
  | cons x l ih =>
    rw [List.map_cons, find_cons]
    rw [List.map_cons, List.nodup_cons] at nd
    rcases List.mem_cons.mp h with e | e
    · subst e
      rw [if_pos rfl]
    · rw [if_neg (fun z => nd.1 (List.mem_map.mpr ⟨_, e, z.symm⟩))]
      exact ih nd.2 e
theorem find_none {α : Type} {l : List (Nat × α)} {f : α → PyData} {b : Nat} (h : find (l.map fun x => (x.1, f x.2)) b = none) : ∀ a, (b, a) ∉ l := by
  induction l with
  | nil => exact fun a e => by cases e
  | cons x l ih =>
    rw [List.map_cons, find_cons] at h
    intro a e
    split at h
    · cases h
    · rename_i hb
      rcases List.mem_cons.mp e with z | z
      · exact hb (by rw [← z])
      · exact ih h a z
theorem find_some {α : Type} {l : List (Nat × α)} {f : α → PyData} {b : Nat} {d : PyData} (h : find (l.map fun x => (x.1, f x.2)) b = some d) : ∃ a, (b, a) ∈ l ∧ d = f a := by
  induction l with
  | nil => cases h
  | cons x l ih =>
    rw [List.map_cons, find_cons] at h
    split at h
    · rename_i hb
      cases h
      exact ⟨x.2, by rw [← hb]; exact List.mem_cons_self, rfl⟩
    · obtain ⟨a, h1, h2⟩ := ih h
      exact ⟨a, List.mem_cons_of_mem _ h1, h2⟩
theorem has_unique {α : Type} {l : List (Nat × α)} (nd : (l.map (·.1)).Nodup) {b : Nat} {p q : α} (h : (b, p) ∈ l) (g : (b, q) ∈ l) : p = q := by
  induction l with
  | nil => cases h
  | cons x l ih =>
    rw [List.map_cons, List.nodup_cons] at nd
    rcases List.mem_cons.mp h with e | e <;> rcases List.mem_cons.mp g with e' | e'
    · rw [← e] at e'; cases e'; rfl
    · exact (nd.1 (List.mem_map.mpr ⟨_, e', by rw [← e]⟩)).elim
    · exact (nd.1 (List.mem_map.mpr ⟨_, e, by rw [← e']⟩)).elim
    · exact ih nd.2 e e'
/-! ### chains -/
def Chain (ss : List Sg) : List Pr2 → Nat → Nat → Prop
  | [], a, c => a = c
  | x :: r, a, c => (x.1 < ss.length ∧ x.2 < 2) ∧ (stepBy ss x).1 = a ∧ Chain ss r (stepBy ss x).2.1 c
def flip (x : Pr2) : Pr2 := (x.1, 1 - x.2)
theorem chain_append {ss : List Sg} : ∀ {l r : List Pr2} {a b c : Nat}, Chain ss l a b → Chain ss r b c → Chain ss (l ++ r) a c
  | [], r, a, b, c, h, g => by cases h; exact g
  | x :: l, r, a, b, c, h, g => ⟨h.1, h.2.1, chain_append h.2.2 g⟩
theorem step_flip {ss : List Sg} {x : Pr2} (h : x.1 < ss.length) (hw : x.2 < 2) {a b : Nat} {q : Rat} (e : stepBy ss x = (a, b, q)) (h0 : ∀ s ∈ ss, s.sh ≠ 0) : stepBy ss (flip x) = (b, a, 1 / q) := by
  obtain ⟨m, w⟩ := x
  have em : ss[m]? = some (ss[m]'h) := List.getElem?_eq_getElem h
  have hs := h0 _ (List.getElem_mem h)
  unfold stepBy flip at *
  simp only [em] at e ⊢
  have : w = 0 ∨ w = 1 := by
    have hw : w < 2 := hw
    omega
  rcases this with rfl | rfl
  · rw [if_pos rfl] at e
    rw [if_neg (by decide)]
    cases e
    rfl
  · rw [if_neg (by decide)] at e
    rw [if_pos (by decide)]
    cases e
    have : 1 / (1 / (ss[m]'h).sh) = (ss[m]'h).sh := by grind
    rw [this]
theorem chain_flip {ss : List Sg} (h0 : ∀ s ∈ ss, s.sh ≠ 0) : ∀ {l : List Pr2} {a c : Nat}, Chain ss l a c → Chain ss (l.map flip).reverse c a
  | [], a, c, h => (show a = c from h).symm
  | x :: l, a, c, h => by
    rw [List.map_cons, List.reverse_cons]
    refine chain_append (chain_flip h0 h.2.2) ?_
    have e := step_flip h.1.1 h.1.2 (a := (stepBy ss x).1) (b := (stepBy ss x).2.1) (q := (stepBy ss x).2.2) rfl h0
    refine ⟨⟨h.1.1, ?_⟩, ?_, ?_⟩
    · show 1 - x.2 < 2
      omega
    · rw [e]
    · show (stepBy ss (flip x)).2.1 = a
      rw [e]
      exact h.2.1
theorem rprod_reverse (l : List (Nat × Nat × Rat)) : rprod l.reverse = rprod l := by
  induction l with
  | nil => rfl
  | cons x l ih =>
    rw [List.reverse_cons, rprod_append, ih]
    show rprod l * (x.2.2 * 1) = x.2.2 * rprod l
    grind
theorem prod_ne {l : List (Nat × Nat × Rat)} (h : ∀ x ∈ l, x.2.2 ≠ 0) : rprod l ≠ 0 := by
  induction l with
  | nil => exact fun e => by cases e
  | cons x l ih =>
    have h1 := h x List.mem_cons_self
    have h2 := ih fun y hy => h y (List.mem_cons_of_mem _ hy)
    show x.2.2 * rprod l ≠ 0
    intro e
    rcases Rat.mul_eq_zero.mp e with z | z
    · exact h1 z
    · exact h2 z
theorem step_ne {ss : List Sg} (h0 : ∀ s ∈ ss, s.sh ≠ 0) {x : Pr2} (h : x.1 < ss.length) : (stepBy ss x).2.2 ≠ 0 := by
  have em : ss[x.1]? = some (ss[x.1]'h) := List.getElem?_eq_getElem h
  have hs := h0 _ (List.getElem_mem h)
  unfold stepBy
  simp only [em]
  split
  · exact hs
  · show 1 / (ss[x.1]'h).sh ≠ 0
    intro e
    have : (1 / (ss[x.1]'h).sh) * (ss[x.1]'h).sh = 1 := by grind
    rw [e, Rat.zero_mul] at this
    cases this
theorem chain_ok {ss : List Sg} : ∀ {l : List Pr2} {a c : Nat}, Chain ss l a c → ∀ x ∈ l, x.1 < ss.length ∧ x.2 < 2
  | [], _, _, _, x, h => by cases h
  | y :: l, a, c, hc, x, h => by
    rcases List.mem_cons.mp h with e | e
    · rw [e]; exact hc.1
    · exact chain_ok hc.2.2 x e
theorem rprod_flip {ss : List Sg} (h0 : ∀ s ∈ ss, s.sh ≠ 0) : ∀ {l : List Pr2}, (∀ x ∈ l, x.1 < ss.length ∧ x.2 < 2) → rprod ((l.map flip).map (stepBy ss)) * rprod (l.map (stepBy ss)) = 1
  | [], _ => by
    show (1 : Rat) * 1 = 1
    grind
  | x :: l, h => by
    have hx := h x List.mem_cons_self
    have ih := rprod_flip h0 (l := l) fun y hy => h y (List.mem_cons_of_mem _ hy)
    have e := step_flip hx.1 hx.2 (a := (stepBy ss x).1) (b := (stepBy ss x).2.1) (q := (stepBy ss x).2.2) rfl h0
    have hn := step_ne h0 hx.1
    show (stepBy ss (flip x)).2.2 * rprod ((l.map flip).map (stepBy ss)) * ((stepBy ss x).2.2 * rprod (l.map (stepBy ss))) = 1
    rw [e]
    show 1 / (stepBy ss x).2.2 * rprod ((l.map flip).map (stepBy ss)) * ((stepBy ss x).2.2 * rprod (l.map (stepBy ss))) = 1
    generalize (stepBy ss x).2.2 = q at hn
    generalize rprod ((l.map flip).map (stepBy ss)) = u at ih
    generalize rprod (l.map (stepBy ss)) = v at ih
    grind
/-- the end of a chain's k-th step is the start of the next -/
theorem chain_next {ss : List Sg} : ∀ {l : List Pr2} {a c : Nat}, Chain ss l a c → ∀ (k : Nat) (x : Pr2), l[k]? = some x → (∀ y, l[k + 1]? = some y → (stepBy ss x).2.1 = (stepBy ss y).1) ∧ (l[k + 1]? = none → (stepBy ss x).2.1 = c)
  | [], _, _, _, k, x, h => by cases h
  | y :: l, a, c, hc, 0, x, h => by
    cases h
    obtain ⟨_, _, hr⟩ := hc
    cases l with
    | nil => exact ⟨(fun y e => by cases e), fun _ => hr⟩
    | cons z l => exact ⟨(fun y e => by cases e; exact hr.2.1.symm), fun e => by cases e⟩
  | y :: l, a, c, hc, k + 1, x, h => chain_next hc.2.2 k x h
theorem ring_of {ss : List Sg} {l : List Pr2} {a : Nat} (h : Chain ss l a a) (hne : l ≠ []) (hp : rprod (l.map (stepBy ss)) ≠ 1) : IsRing ss l := by
  refine ⟨hne, chain_ok h, fun k x y e1 e2 => ?_, hp⟩
  have hl : 0 < l.length := List.length_pos_iff.mpr hne
  have hk := (List.getElem?_eq_some_iff.mp e1).1
  obtain ⟨n1, n2⟩ := chain_next h k x e1
  by_cases hk1 : k + 1 < l.length
  · rw [List.getElem?_append_left (by rw [List.length_drop]; omega), List.getElem?_drop, Nat.add_comm 1 k] at e2
    exact n1 y e2
  · rw [List.getElem?_append_right (by rw [List.length_drop]; omega), List.length_drop, show k - (l.length - 1) = 0 by omega] at e2
    cases l with
    | nil => cases e1
    | cons z l =>
      simp at e2
      subst e2
      rw [n2 (List.getElem?_eq_none (by omega))]
      exact h.2.1.symm
end K57
/-! F16: the way home, the way to -/
namespace K57
open PySem PySem.Spec PyProof.Rows L2 PD M
/-- a method of the class at C that keeps sp -/
structure MCal (P : Program) (w : World) (K : PySem.W.Frag) (mg : Str → Option Value) (base : Heap) (CX : CXT) (k : Nat) (C : Addr) (m : Str) (ps : List Str) (sp : Sp) : Prop where
  ex : ∃ (f : Addr) (fd : FuncData), Meth K C m f ∧ Binds K fd ps [] ∧ FnOk P w K mg base CX k f fd ps sp
/-- the class at C is made with such an __init__ -/
structure MkC (P : Program) (w : World) (K : PySem.W.Frag) (mg : Str → Option Value) (base : Heap) (CX : CXT) (k : Nat) (C : Addr) (ps : List Str) (sp : Sp) : Prop where
  ex : ∃ (f : Addr) (fd : FuncData), Mk K C f ∧ mg "Part" = some (.ref C) ∧ Binds K fd ps [] ∧ FnOk P w K mg base CX k f fd ps sp
theorem pe_mcal {X : Cx} {CX : CXT} {k : Nat} {C : Addr} {m : Str} {ps : List Str} {sp : Sp} {W : XK} {o e : Expr} {es : List Expr} {ta : TE} {t : TA} {apos pos : Pos} {pl : Sem Bool} (MC : MCal X.prog X.w X.K X.mg X.base CX k C m ps sp) (c : Cls X.K C) (hr : Room k X.A) (hx : Passes CX X W) (he : PE X o ta) (ha : PA X (e :: es) t)
    (hst : starEach (e :: es) X.env = (false, eval e X.env) :: starEach es X.env := by rfl) (hpl : (backTo pos (starEach es X.env)).any (·.1) = false := by rfl)
    (ht : eval (.Call (.Attribute o m apos) (e :: es) [] pos) X.env = (do
      let ov ← eval o X.env
      standAt apos.atName
      let (f, first) ← holding [ov] (getMethod ov m pl)
      callWith pos f first (backTo pos (starEach (e :: es) X.env)) (backToKw pos (keywordEach [] X.env))) := by rfl) :
    PE X (.Call (.Attribute o m apos) (e :: es) [] pos) (tMeth C m sp [] W ta t) := by
  obtain ⟨f, fd, hm, hb, F⟩ := MC.ex
  exact pe_meth he c hm F hr hb .nil hx ha hst hpl ht
theorem pe_mcal0 {X : Cx} {CX : CXT} {k : Nat} {C : Addr} {m : Str} {ps : List Str} {sp : Sp} {W : XK} {o : Expr} {ta : TE} {apos pos : Pos} {pl : Sem Bool} (MC : MCal X.prog X.w X.K X.mg X.base CX k C m ps sp) (c : Cls X.K C) (hr : Room k X.A) (hx : Passes CX X W) (he : PE X o ta)
    (ht : eval (.Call (.Attribute o m apos) [] [] pos) X.env = (do
      let ov ← eval o X.env
      standAt apos.atName
      let (f, first) ← holding [ov] (getMethod ov m pl)
      callWith pos f first (backTo pos (starEach [] X.env)) (backToKw pos (keywordEach [] X.env))) := by rfl) :
    PE X (.Call (.Attribute o m apos) [] [] pos) (tMeth C m sp [] W ta tNil) := by
  obtain ⟨f, fd, hm, hb, F⟩ := MC.ex
  exact pe_meth0 he c hm F hr hb .nil hx ht
theorem pe_mk {X : Cx} {CX : CXT} {k : Nat} {C : Addr} {ps : List Str} {sp : Sp} {W : XK} {e : Expr} {es : List Expr} {t : TA} {p pos : Pos} (MC : MkC X.prog X.w X.K X.mg X.base CX k C ps sp) (hr : Room (k + 1) X.A) (hx : Passes CX X W) (ha : PA X (e :: es) t) (hg : Gl X "Part" := by rfl)
    (he : starEach (e :: es) X.env = (false, eval e X.env) :: starEach es X.env := by rfl) (hpl : (backTo pos (starEach es X.env)).any (·.1) = false := by rfl) :
    PE X (.Call (.Name "Part" p) (e :: es) [] pos) (tMake C sp [] W t) := by
  obtain ⟨f, fd, M, hm, hb, F⟩ := MC.ex
  exact pe_make M F hr hg hm hb .nil hx ha (by decide) he hpl
theorem pg_tupK {X : Cx} {K : PySem.W.Frag} {es : List Expr} {k : Nat} {t : TGs} {n : Nat} {pos : Pos} (hK : X.K = K) (hc : X.calm = true) (h : PGs X es t) (hn : (assignEach es X.env).length = n := by rfl) (hst : (assignEach es X.env).findIdx? (·.1) = none := by rfl) : PG X (.Tuple es k pos) (gTup K n t) := by
  subst hK
  exact pg_tup hc h hn hst
def R_home : Ob → List PyData → (List PyData → Prop) → Prop := fun x ds Pd => ∃ (C : Addr) (ss : List Sg) (n b0 : Nat) (l : Wt) (c : Cm) (r : Option (List Pr2)) (b : Nat) (q : Rat), ObIs x C ss l c r ∧ PI ss n b0 l c ∧ l.length ≤ 10 ∧ ds = [.int (b : Int)] ∧ (b, q) ∈ l ∧
  Pd = fun xs => ∃ path : List Pr2, xs = path.map encP ∧ Chain ss path b b0 ∧ rprod (path.map (stepBy ss)) = 1 / q ∧ path.length ≤ 10
def R_way_to : Ob → List PyData → (List PyData → Prop) → Prop := fun x ds Pd => ∃ (C : Addr) (ss : List Sg) (n b0 : Nat) (l : Wt) (c : Cm) (r : Option (List Pr2)) (b : Nat) (q : Rat), ObIs x C ss l c r ∧ PI ss n b0 l c ∧ l.length ≤ 10 ∧ ds = [.int (b : Int)] ∧ (b, q) ∈ l ∧
  Pd = fun xs => ∃ path : List Pr2, xs = path.map encP ∧ Chain ss path b0 b ∧ rprod (path.map (stepBy ss)) = q ∧ path.length ≤ 10
/-- a comprehension over a list that is not told -/
theorem elN_mapL {K : PySem.W.Frag} {M : Addr → Prop} {ρ : List Sl} {te tel : TE} {g : TG} {vs : List Nat} {α : Type} (enc : α → PyData) {h : α → PyData} {A : List α → Prop} (he : EvN K M te ρ (fun d => ∃ zs : List α, d = .list (zs.map enc) ∧ A zs)) (hl : ∀ zs, A zs → zs.length ≤ 1000)
    (it : ∀ (zs : List α), A zs → ∀ x ∈ zs, ∃ ρ2, TgE K M vs g (wipeS ρ vs) (enc x) ρ2 ∧ Ev K M tel ρ2 (h x)) : ELN K M (tLc (iList K te) g tYes tel vs) ρ (fun ys => ∃ zs, A zs ∧ ys = zs.map h) := fun F H σ s o Q q =>
  he F H σ s o _ fun d' v F1 H1 e st r => by
    obtain ⟨zs, rfl, hA⟩ := e
    obtain ⟨a, ws, rfl, ha, ra⟩ := r.lst_
    have o1 := o.step st
    have hlz := hl zs hA
    refine ⟨a, rfl, ⟨ws, .of (st.fh _ _ ha)⟩, fun D nD => ?_⟩
    have mD : ¬ M D := fun m => by
      obtain ⟨x, y, z, e⟩ := o1.mp D m
      rw [nD] at e
      cases e
    refine lc_list (K := K) (a := a) (xs := ws) (fun k H' => LcSt K M F1 H1 D ((zs.take k).map h) ρ σ H') ?_ (fun k H' _ ⟨F', acc, s1, _⟩ => .of (s1.fh _ _ (s1.ff _ _ ha))) ?_ ?_
    · have sn : Step M F1 H1 F1 (upd H1 D (.lst [])) := .newU st.fh nD
      exact ⟨F1, [], sn, o1.step sn, st.fh.free nD, mD, upd_same, .nil⟩
    · intro k y H' hy hs
      obtain ⟨x, hx, rx⟩ := ra.getV hy
      obtain ⟨z, hz, rfl⟩ := map_get hx
      have hk : k < zs.length := (List.getElem?_eq_some_iff.mp hz).1
      obtain ⟨ρ2, h1, h2⟩ := it zs hA z (List.mem_of_getElem? hz)
      refine lc_turn (item_map h1 h2) nD o1 hs rx (by rw [List.length_map, List.length_take]; omega) fun H2 h2 => ?_
      rw [take_succ' hz, List.map_append]
      exact h2
    · rintro H' ⟨F', acc, s1, o', fd, md, hD, racc⟩
      rw [ra.length, List.length_map, List.take_length] at racc
      exact q _ D acc F' H' ⟨zs, hA, rfl⟩ (st.trans o.mp s1) fd (freeBack st o.mp nD) hD racc
theorem PI.h0 {ss : List Sg} {n b0 : Nat} {l : Wt} {c : Cm} (h : PI ss n b0 l c) : ∀ s ∈ ss, s.sh ≠ 0 := fun s hs => (h.good s hs).ne
theorem PI.ndc {ss : List Sg} {n b0 : Nat} {l : Wt} {c : Cm} (h : PI ss n b0 l c) : (c.map (·.1)).Nodup := by
  rw [h.keys]
  exact h.nd
theorem pd_isNone_enc (y : Option (Nat × Nat × Nat)) : isNone (encC y) = y.isNone := by cases y <;> rfl
section
variable {P : Program} {w : World} {K : PySem.W.Frag} {mg : Str → Option Value} {base : Heap}
theorem sc_Part_way_home : FnScope ["self", "ball", "found", "number", "way", "before"] ["self", "ball"] (defScope (inClass (top 24) 2)) := ⟨rfl, rfl, rfl, by decide +kernel, rfl, by decide +kernel, by decide +kernel⟩
theorem ok_Part_way_home {f aN aO : Addr} {fd : FuncData} (T : Txt K mg aN aO) {C : Addr} (PC : PCls K C)    (F : FunD K "way_home" "Part.way_home" (defArgs (inClass (top 24) 2)) (defBody (inClass (top 24) 2)) (defScope (inClass (top 24) 2)) [] [] f fd) : FnOk P w K mg base CX0 1 f fd ["self", "ball"] (spRO K C R_home) := by
  refine ok_defRO F sc_Part_way_home (fun x ds Pd h => ?_) (fun cdv A outer s H W hr => ⟨_, (pss_cons (ps_set (i := 2) sc_Part_way_home.nd rfl (Or.inl rfl) (pe_lst pa_nil))
      (pss_cons (ps_while (passes_of rfl) (pt_cmpR op_notN (pe_dget (hu_of hr) (pe_fld (pv 0) rfl) (pv 1) (fun _ _ => rfl)) pe_non (nomark _)) (pss_cons (ps_asg (pe_dget (hu_of hr) (pe_fld (pv 0) rfl) (pv 1) (fun _ _ => rfl)) (pg_tup rfl (pgs_cons (pg_name (i := 3) sc_Part_way_home.nd rfl (Or.inl rfl)) (pgs_cons (pg_name (i := 4) sc_Part_way_home.nd rfl (Or.inl rfl)) (pgs_cons (pg_name (i := 5) sc_Part_way_home.nd rfl (Or.inl rfl)) pgs_nil)))))
      (pss_cons (ps_expr (pe_bm PySem.F.plainAttrs_list PySem.F.slot_list_append PySem.F.type_list_append mt_append (pv 2) (pa_cons (pe_tup (pa_cons (pv 3) (pa_cons (pe_op op_sub pe_int (pv 4)) pa_nil))) pa_nil)))
      (pss_one (ps_set (i := 1) sc_Part_way_home.nd rfl (Or.inl rfl) (pv 5))))))
      (pss_one (ps_ret (pv 2))))), fun x ds Pd Fz σ D hC h st ob qq => ?_⟩)
  · obtain ⟨C', ss, n, b0, l, c, r, b, q, hx, hp, hl, rfl, hb, rfl⟩ := h
    rfl
  · obtain ⟨C', ss, n, b0, l, c, r, b, q, hx, hp, hl, rfl, hb, rfl⟩ := h
    have hxC : PCls K x.C := by rw [hC]; exact PC
    obtain ⟨m0, hm0⟩ := List.getElem?_of_mem hb
    have q0 : 0 < q := (hp.sm m0 b q hm0).2
    have hm0l := (List.getElem?_eq_some_iff.mp hm0).1
    refine seq_run (W := E0) (J := fun ρ' => ρ' = [.o x, .d (.int (b : Int)), .l [], .u, .u, .u]) (s_setL (el_lst ag_nil) ⟨_, rfl, rfl⟩) st ?_
    rintro ρ1 σ1 F1 H1 rfl s1
    refine seq_run (W := E0) (J := fun ρ' => ∃ (path : List Pr2) (c3 c4 c5 : Sl), ρ' = [.o x, .d (.int (b0 : Int)), .l (path.map encP), c3, c4, c5] ∧ Chain ss path b b0 ∧ rprod (path.map (stepBy ss)) = 1 / q ∧ path.length ≤ 10)
      (s_while (fun m ρ' => ∃ (cur : Nat) (qc : Rat) (path : List Pr2) (c3 c4 c5 : Sl), ρ' = [.o x, .d (.int (cur : Int)), .l (path.map encP), c3, c4, c5] ∧ l[m]? = some (cur, qc) ∧ Chain ss path b cur ∧ rprod (path.map (stepBy ss)) = qc / q ∧ path.length + m ≤ m0) (m0 := m0) ⟨b, q, [], .u, .u, .u, rfl, hm0, rfl, (by show (1 : Rat) = q / q; grind), by simp⟩ ?_) s1 ?_
    · rintro m ρ' ⟨cur, qc, path, c3, c4, c5, rfl, hm, hch, hpr, hlen⟩
      cases m with
      | zero =>
        rw [hp.root.1] at hm
        cases hm
        have hf : find x.cm b0 = some (encC none) := by
          rw [hx.cm]
          exact find_of hp.ndc (List.mem_of_getElem? hp.root.2)
        refine ⟨_, te_test (ev_op (ev_getC rfl hxC (ev_var rfl) hf) ev_non od_notN), (fun h => by cases h), fun _ => ⟨_, rfl, path, c3, c4, c5, rfl, hch, hpr, by omega⟩⟩
      | succ m =>
        obtain ⟨sn, wy, bf, m', qb, sh, hc, hsn, hwy, hm', hbf, est, eq⟩ := hp.tree m cur qc hm
        have hf : find x.cm cur = some (encC (some (sn, wy, bf))) := by
          rw [hx.cm]
          exact find_of hp.ndc (List.mem_of_getElem? hc)
        refine ⟨_, te_test (ev_op (ev_getC rfl hxC (ev_var rfl) hf) ev_non od_notN), fun _ => ?_, fun h => by cases h⟩
        refine s_seq (s_asg (ev_getC rfl hxC (ev_var rfl) hf) (tg_tup rfl (tgA_cons tg_name (tgA_cons tg_name (tgA_cons tg_name tgA_nil)))) ?_)
        have e1 : PyData.tuple [.int (sn : Int), .int ((1 : Int) - (wy : Int))] = encP (flip (sn, wy)) := by
          show PyData.tuple [.int (sn : Int), .int ((1 : Int) - (wy : Int))] = PyData.tuple [.int (sn : Int), .int ((1 - wy : Nat) : Int)]
          have : (1 : Int) - (wy : Int) = ((1 - wy : Nat) : Int) := by omega
          rw [this]
        refine s_seq (s_append (xs := path.map encP) rfl ((ev_tup (ag_cons (ev_var rfl) (ag_cons (ev_sub ev_int (ev_var rfl)) ag_nil))).eq e1) (by rw [List.length_map]; omega) ?_)
        refine s_set (ev_var rfl) ⟨m', by omega, bf, qb, path ++ [flip (sn, wy)], .d (.int (sn : Int)), .d (.int (wy : Int)), .d (.int (bf : Int)), ?_, hbf, ?_, ?_, ?_⟩
        · rw [List.map_append]
          rfl
        · have ef := step_flip (x := (sn, wy)) hsn hwy est hp.h0
          refine chain_append hch ⟨⟨hsn, ?_⟩, ?_, ?_⟩
          · show 1 - wy < 2
            omega
          · rw [ef]
          · show (stepBy ss (flip (sn, wy))).2.1 = bf
            rw [ef]
        · rw [List.map_append, rprod_append, hpr]
          show qc / q * ((stepBy ss (flip (sn, wy))).2.2 * 1) = qb / q
          rw [step_flip (x := (sn, wy)) hsn hwy est hp.h0, eq]
          have hsh : sh ≠ 0 := by
            have := step_ne hp.h0 (x := (sn, wy)) hsn
            rw [est] at this
            exact this
          show qb * sh / q * (1 / sh * 1) = qb / q
          grind
        · rw [List.length_append, List.length_singleton]
          omega
    · rintro ρ2 σ2 F2 H2 ⟨path, c3, c4, c5, rfl, h1, h2, h3⟩ s2
      exact ro_ret s2 rfl ob (i := 2) (by decide) rfl fun l vs' a1 a2 a3 a4 a5 => qq _ l vs' F2 H2 ⟨path, rfl, h1, h2, h3⟩ a1 a2 a3 a4 a5
theorem sc_Part_way_to : FnScope ["self", "ball", "found", "number", "way"] ["self", "ball"] (defScope (inClass (top 24) 3)) := ⟨rfl, rfl, rfl, by decide +kernel, rfl, by decide +kernel, by decide +kernel⟩
theorem ok_Part_way_to {f aN aO : Addr} {fd : FuncData} (T : Txt K mg aN aO) {C : Addr} (PC : PCls K C)   (MC_way_home : MCal P w K mg base CX0 1 C "way_home" ["self", "ball"] (spRO K C R_home)) (F : FunD K "way_to" "Part.way_to" (defArgs (inClass (top 24) 3)) (defBody (inClass (top 24) 3)) (defScope (inClass (top 24) 3)) [] [] f fd) : FnOk P w K mg base CX0 2 f fd ["self", "ball"] (spRO K C R_way_to) := by
  refine ok_defRO F sc_Part_way_to (fun x ds Pd h => ?_) (fun cdv A outer s H W hr => ⟨_, (pss_cons (ps_setLc (i := 2) (own := [("number", 3), ("way", 4)]) rfl sc_Part_way_to.nd rfl rfl (sw_true rfl rfl rfl (by decide +kernel)) (pi_list (pe_mcal MC_way_home PC.c (hr.mono (by decide)) pass0 (pv 0) (pa_cons (pv 1) pa_nil))) (blkOk_by (N := ["self", "ball", "found", "number", "way"]) (sc := defScope (inClass (top 24) 3)) (by decide +kernel)) (fun _ _ _ _ _ => (pg_tupK (K := K) (n := 2) rfl rfl (pgs_cons (pg_name (i := 3) sc_Part_way_to.nd rfl (Or.inl rfl)) (pgs_cons (pg_name (i := 4) sc_Part_way_to.nd rfl (Or.inl rfl)) pgs_nil)))) (fun _ _ _ _ _ => pts_nil) (fun _ _ _ _ _ => (pe_tup (pa_cons (pv 3) (pa_cons (pe_op op_sub pe_int (pv 4)) pa_nil)))))
      (pss_cons (ps_expr (pe_bm0 PySem.F.plainAttrs_list PySem.F.slot_list_reverse PySem.F.type_list_reverse mt_reverse (pv 2)))
      (pss_one (ps_ret (pv 2))))), fun x ds Pd Fz σ D hC h st ob qq => ?_⟩)
  · obtain ⟨C', ss, n, b0, l, c, r, b, q, hx, hp, hl, rfl, hb, rfl⟩ := h
    rfl
  · obtain ⟨C', ss, n, b0, l, c, r, b, q, hx, hp, hl, rfl, hb, rfl⟩ := h
    have key : ELN K (fun _ => False) (tMeth C "way_home" (spRO K C R_home) [] E0 (tVar 0) (tCons (tVar 1) tNil)) (initO ["self", "ball", "found", "number", "way"] x [.int (b : Int)]) (fun xs => ∃ path : List Pr2, xs = path.map encP ∧ Chain ss path b b0 ∧ rprod (path.map (stepBy ss)) = 1 / q ∧ path.length ≤ 10) :=
      elN_meth rfl hC (fun _ _ _ _ => rfl) (ag_cons (ev_var rfl) ag_nil) fun ds e => ⟨_, ⟨C', ss, n, b0, l, c, r, b, q, hx, hp, hl, e, hb, rfl⟩, fun xs h => h⟩
    obtain ⟨m0, hm0⟩ := List.getElem?_of_mem hb
    have q0 : 0 < q := (hp.sm m0 b q hm0).2
    refine seq_run (W := E0) (J := fun ρ' => ∃ path : List Pr2, ρ' = [.o x, .d (.int (b : Int)), .l ((path.map flip).map encP), .u, .u] ∧ Chain ss path b b0 ∧ rprod (path.map (stepBy ss)) = 1 / q ∧ path.length ≤ 10)
      (s_setLP (elN_mapL encP (h := fun y => encP (flip y)) (A := fun path => Chain ss path b b0 ∧ rprod (path.map (stepBy ss)) = 1 / q ∧ path.length ≤ 10) (ELN.ev key fun xs ⟨path, e, h⟩ => ⟨path, by rw [e], h⟩) (fun zs hz => by have := hz.2.2; omega) fun zs hz y hy => ?_) ?_) st ?_
    · have hy2 := chain_ok hz.1 y hy
      refine ⟨_, te_tup rfl (teA_cons (te_name (by decide)) (teA_cons (te_name (by decide)) teA_nil)), Ev.eq (ev_tup (ag_cons (ev_var rfl) (ag_cons (ev_sub ev_int (ev_var rfl)) ag_nil))) ?_⟩
      show PyData.tuple [.int (y.1 : Int), .int ((1 : Int) - (y.2 : Int))] = PyData.tuple [.int (y.1 : Int), .int ((1 - y.2 : Nat) : Int)]
      have : (1 : Int) - (y.2 : Int) = ((1 - y.2 : Nat) : Int) := by omega
      rw [this]
    · rintro xs ⟨path, ⟨h1, h2, h3⟩, rfl⟩
      refine ⟨_, rfl, path, ?_, h1, h2, h3⟩
      rw [List.map_map]
      rfl
    rintro ρ1 σ1 F1 H1 ⟨path, rfl, h1, h2, h3⟩ s1
    refine seq_run (W := E0) (J := fun ρ' => ρ' = [.o x, .d (.int (b : Int)), .l ((path.map flip).reverse.map encP), .u, .u]) (s_reverse (i := 2) rfl ⟨_, rfl, by rw [List.map_reverse]; rfl⟩) s1 ?_
    rintro ρ2 σ2 F2 H2 rfl s2
    refine ro_ret s2 rfl ob (i := 2) (by decide) rfl fun l' vs' a1 a2 a3 a4 a5 => qq _ l' vs' F2 H2 ⟨(path.map flip).reverse, rfl, chain_flip hp.h0 h1, ?_, ?_⟩ a1 a2 a3 a4 a5
    · have e1 := rprod_flip hp.h0 (chain_ok h1)
      rw [h2] at e1
      rw [List.map_reverse, rprod_reverse]
      generalize rprod ((path.map flip).map (stepBy ss)) = u at e1
      grind
    · rw [List.length_reverse, List.length_map]
      exact h3
end
end K57
/-! F17: joined -/
namespace K57
open PySem PySem.Spec PyProof.Rows L2 PD M
theorem nodup_le : ∀ (n : Nat) (l : List Nat), l.Nodup → (∀ x ∈ l, x < n) → l.length ≤ n
  | 0, l, _, h => by
    cases l with
    | nil => exact Nat.le_refl _
    | cons x l => exact absurd (h x List.mem_cons_self) (by omega)
  | n + 1, l, nd, h => by
    have h2 := nodup_le n (l.erase n) (nd.erase n) fun x hx => by
      have h1 := h x (List.mem_of_mem_erase hx)
      have : x ≠ n := fun e => by
        subst e
        exact absurd hx (List.Nodup.not_mem_erase nd)
      omega
    by_cases hm : n ∈ l
    · rw [List.length_erase_of_mem hm] at h2
      omega
    · rw [List.erase_of_not_mem hm] at h2
      omega
theorem PI.len {ss : List Sg} {n b0 : Nat} {l : Wt} {c : Cm} (h : PI ss n b0 l c) : l.length ≤ n := by
  have := nodup_le n (l.map (·.1)) h.nd fun x hx => by
    obtain ⟨y, hy, rfl⟩ := List.mem_map.mp hx
    exact h.lt y hy
  simpa using this
theorem PI.lenc {ss : List Sg} {n b0 : Nat} {l : Wt} {c : Cm} (h : PI ss n b0 l c) : c.length = l.length := by
  have := congrArg List.length h.keys
  simpa using this
/-- what a step from b tells -/
theorem steps_mem {ss : List Sg} {b : Nat} {y : St4} {n : Nat} (hg : ∀ s ∈ ss, Good n s) (h : y ∈ steps ss b) : y.1 < ss.length ∧ y.2.1 < 2 ∧ y.2.2.1 < n ∧ stepBy ss (y.1, y.2.1) = (b, y.2.2.1, y.2.2.2) ∧ Sm 11 y.2.2.2 ∧ 0 < y.2.2.2 := by
  obtain ⟨m, s, hm, es, hy⟩ := stepsUp_mem h
  have hs := hg s (List.mem_of_getElem? es)
  unfold stepAt at hy
  rcases List.mem_append.mp hy with hy | hy
  · split at hy
    · rename_i e
      rw [List.mem_singleton.mp hy]
      refine ⟨hm, show 0 < 2 by decide, hs.lj, ?_, hs.sm, hs.pos⟩
      unfold stepBy
      simp only [es]
      rw [if_pos trivial, e]
    · cases hy
  · split at hy
    · rename_i e
      rw [List.mem_singleton.mp hy]
      refine ⟨hm, show 1 < 2 by decide, hs.li, ?_, sm_inv hs.sm hs.ne, ?_⟩
      · unfold stepBy
        simp only [es]
        rw [if_neg (by decide), e]
      · show 0 < 1 / s.sh
        rw [Rat.lt_div_iff hs.pos, Rat.zero_mul]
        decide
    · cases hy
theorem PI.push {ss : List Sg} {n b0 : Nat} {l : Wt} {c : Cm} (h : PI ss n b0 l c) {b : Nat} {q : Rat} (hb : (b, q) ∈ l) {y : St4} (hy : y ∈ steps ss b) (hn : ∀ a, (y.2.2.1, a) ∉ l) : PI ss n b0 (l ++ [(y.2.2.1, q * y.2.2.2)]) (c ++ [(y.2.2.1, some (y.1, y.2.1, b))]) := by
  obtain ⟨h1, h2, h3, h4, h5, h6⟩ := steps_mem h.good hy
  obtain ⟨mb, hmb⟩ := List.getElem?_of_mem hb
  have hmbl := (List.getElem?_eq_some_iff.mp hmb).1
  have hlc := h.lenc
  refine ⟨h.good, by rw [List.map_append, List.map_append, h.keys]; rfl, ?_, fun x hx => ?_, ⟨?_, ?_⟩, fun m k qk e => ?_, fun m k qk e => ?_⟩
  · rw [List.map_append, List.nodup_append]
    refine ⟨h.nd, by simp, fun a ha b' hb' => ?_⟩
    obtain ⟨z, hz, rfl⟩ := List.mem_map.mp ha
    rw [List.mem_singleton.mp hb']
    intro e
    obtain ⟨z1, z2⟩ := z
    have e : z1 = y.2.2.1 := e
    exact hn z2 (by rw [← e]; exact hz)
  · rcases List.mem_append.mp hx with hx | hx
    · exact h.lt x hx
    · rw [List.mem_singleton.mp hx]
      exact h3
  · rw [List.getElem?_append_left (by omega)]
    exact h.root.1
  · rw [List.getElem?_append_left (by omega)]
    exact h.root.2
  · by_cases hm : m + 1 < l.length
    · rw [List.getElem?_append_left hm] at e
      obtain ⟨sn, wy, bf, m', qb, sh, g1, g2, g3, g4, g5, g6, g7⟩ := h.tree m k qk e
      exact ⟨sn, wy, bf, m', qb, sh, by rw [List.getElem?_append_left (by omega)]; exact g1, g2, g3, g4, by rw [List.getElem?_append_left (by omega)]; exact g5, g6, g7⟩
    · have hm2 := (List.getElem?_eq_some_iff.mp e).1
      rw [List.length_append, List.length_singleton] at hm2
      have hme : m + 1 = l.length := by omega
      rw [List.getElem?_append_right (by omega), show m + 1 - l.length = 0 by omega] at e
      cases e
      exact ⟨y.1, y.2.1, b, mb, q, y.2.2.2, by rw [List.getElem?_append_right (by omega), show m + 1 - c.length = 0 by omega]; rfl, h1, h2, by omega, by rw [List.getElem?_append_left hmbl]; exact hmb, h4, rfl⟩
  · by_cases hm : m < l.length
    · rw [List.getElem?_append_left hm] at e
      exact h.sm m k qk e
    · have hm2 := (List.getElem?_eq_some_iff.mp e).1
      rw [List.length_append, List.length_singleton] at hm2
      rw [List.getElem?_append_right (by omega), show m - l.length = 0 by omega] at e
      cases e
      obtain ⟨g1, g2⟩ := h.sm mb b q hmb
      exact ⟨(g1.mul h5).mono (by omega), Rat.mul_pos g2 h6⟩
/-- what joined gives -/
structure JoinIs (ss : List Sg) (n b0 b : Nat) (q : Rat) (l : Wt) (c : Cm) (l' : Wt) (c' : Cm) (r' : Option (List Pr2)) (k : Nat) : Prop where
  pi : PI ss n b0 (l ++ l') (c ++ c')
  cl : ∀ (j : Nat) (y : St4), j < k → (steps ss b)[j]? = some y → ∃ qo, (y.2.2.1, qo) ∈ l ++ l' ∧ (r' = none → qo = q * y.2.2.2)
  rg : ∀ rg, r' = some rg → IsRing ss rg ∧ rg.length ≤ 50
structure SameOb (x x' : Ob) : Prop where
  C : x'.C = x.C
  a : x'.a = x.a
  dw : x'.dw = x.dw
  dc : x'.dc = x.dc
theorem SameOb.has {x x' : Ob} (h : SameOb x x') (b : Addr) : x'.has b ↔ x.has b := by
  unfold Ob.has
  rw [h.a, h.dw, h.dc]
def spJoin (K : PySem.W.Frag) (C : Addr) : Sp := fun vs H Q _ => ∃ (F : Hp) (x : Ob) (ss : List Sg) (n b0 b : Nat) (q : Rat) (l : Wt) (c : Cm), vs = [.ref x.a, .int (b : Int)] ∧ x.C = C ∧ Same F H ∧ (∀ b, x.has b → F b = none) ∧ x.dw ≠ x.dc ∧ ObOk K F H x ∧ ObIs x C ss l c none ∧ PI ss n b0 l c ∧ n ≤ 10 ∧ ss.length ≤ 100 ∧ (b, q) ∈ l ∧
  ∀ (x' : Ob) (l' : Wt) (c' : Cm) (r' : Option (List Pr2)) (a : Addr) (vs' : List V) (F' H' : Hp), SameOb x x' → ObIs x' C ss (l ++ l') (c ++ c') r' → JoinIs ss n b0 b q l c l' c' r' (steps ss b).length → Step x.has F H F' H' → (∀ b, x'.has b → F' b = none) → ObOk K F' H' x' → F' a = none → H a = none → ¬ x.has a → H' a = some (.lst vs') → RpA K F' vs' ((l'.map (·.1)).map encN) → Q (.ref a) H'
section
variable {P : Program} {w : World} {K : PySem.W.Frag} {mg : Str → Option Value} {base : Heap}
theorem sc_Part_joined : FnScope ["self", "ball", "fresh", "number", "way", "other", "share", "weight"] ["self", "ball"] (defScope (inClass (top 24) 1)) := ⟨rfl, rfl, rfl, by decide +kernel, rfl, by decide +kernel, by decide +kernel⟩
theorem ok_Part_joined {f aN aO : Addr} {fd : FuncData} (T : Txt K mg aN aO) {C : Addr} (PC : PCls K C)  (C_steps_from : Cal P w K mg base CX0 6 "steps_from" ["sightings", "ball"] [] (spF K R_steps_from)) (C_times : Cal P w K mg base CX0 3 "times" ["one", "other"] [] (spF K R_times)) (MC_way_home : MCal P w K mg base CX0 1 C "way_home" ["self", "ball"] (spRO K C R_home)) (MC_way_to : MCal P w K mg base CX0 2 C "way_to" ["self", "ball"] (spRO K C R_way_to)) (F : FunD K "joined" "Part.joined" (defArgs (inClass (top 24) 1)) (defBody (inClass (top 24) 1)) (defScope (inClass (top 24) 1)) [] [] f fd) : FnOk P w K mg base CX0 7 f fd ["self", "ball"] (spJoin K C) := by
  refine F.ok sc_Part_joined (fun vs H Q W h => ?_) (fun cdv A outer s H vs Q W hr h => ⟨_, (pss_cons (ps_set (i := 2) sc_Part_joined.nd rfl (Or.inl rfl) (pe_lst pa_nil))
      (pss_cons (ps_for (passes_of rfl) rfl (pi_list (pe_cal C_steps_from (hr.mono (by decide)) pass0 (pa_cons (pe_fld (pv 0) rfl) (pa_cons (pv 1) pa_nil)))) (pg_tup rfl (pgs_cons (pg_name (i := 3) sc_Part_joined.nd rfl (Or.inl rfl)) (pgs_cons (pg_name (i := 4) sc_Part_joined.nd rfl (Or.inl rfl)) (pgs_cons (pg_name (i := 5) sc_Part_joined.nd rfl (Or.inl rfl)) (pgs_cons (pg_name (i := 6) sc_Part_joined.nd rfl (Or.inl rfl)) pgs_nil))))) (pss_cons (ps_set (i := 7) sc_Part_joined.nd rfl (Or.inl rfl) (pe_cal C_times (hr.mono (by decide)) pass0 (pa_cons (pe_dget (hu_of hr) (pe_fld (pv 0) rfl) (pv 1) (fun _ _ => rfl)) (pa_cons (pv 6) pa_nil))))
      (pss_one (ps_if (pt_cmp (pc_dnotin (hu_of hr) (pv 5) (pe_fld (pv 0) rfl)) (by rfl)) (pss_cons (ps_dput (hu_of hr) (pe_fld (pv 0) rfl) (pv 5) (pv 7) rfl)
      (pss_cons (ps_dput (hu_of hr) (pe_fld (pv 0) rfl) (pv 5) (pe_tup (pa_cons (pv 3) (pa_cons (pv 4) (pa_cons (pv 1) pa_nil)))) rfl)
      (pss_one (ps_expr (pe_bm PySem.F.plainAttrs_list PySem.F.slot_list_append PySem.F.type_list_append mt_append (pv 2) (pa_cons (pv 5) pa_nil)))))) (pss_one (ps_if (PW.pt (pw_and (pt_cmpR (op_neD hr.units) (pe_dget (hu_of hr) (pe_fld (pv 0) rfl) (pv 5) (fun _ _ => rfl)) (pv 7) (nomark _)) (pw_and1 (pt_cmpR op_isN (pe_fld (pv 0) rfl) pe_non (nomark _))))) (pss_one (ps_fld (pv 0) (pe_op op_cat (pe_op op_cat (pe_mcal MC_way_to PC.c (hr.mono (by decide)) pass0 (pv 0) (pa_cons (pv 1) pa_nil)) (pe_lst (pa_cons (pe_tup (pa_cons (pv 3) (pa_cons (pv 4) pa_nil))) pa_nil))) (pe_mcal MC_way_home PC.c (hr.mono (by decide)) pass0 (pv 0) (pa_cons (pv 5) pa_nil))) rfl)) pss_nil))))))
      (pss_one (ps_ret (pv 2))))), ?_⟩)
  · obtain ⟨Fz, x, ss, n, b0, b, q, l, c, rfl, _⟩ := h
    rfl
  · obtain ⟨Fz, x, ss, n, b0, b, q, l, c, rfl, hC, sm, hf, hne, ob, hx, hp, hn, hss, hb, qq⟩ := h
    have st := initO_ok (N := ["self", "ball", "fresh", "number", "way", "other", "share", "weight"]) (ds := [.int (b : Int)]) sm (.cons (.int (b : Int)) .nil) hf hne ob
    have hxC : PCls K x.C := by rw [hC]; exact PC
    obtain ⟨mb, hmb⟩ := List.getElem?_of_mem hb
    have hmbl := (List.getElem?_eq_some_iff.mp hmb).1
    obtain ⟨sq, q0⟩ := hp.sm mb b q hmb
    have hpl := hp.len
    have okq : Ok q := sq.mono (by omega)
    refine seq_run (W := E0) (J := fun ρ' => ρ' = [.o x, .d (.int (b : Int)), .l [], .u, .u, .u, .u, .u]) (s_setL (el_lst ag_nil) ⟨_, rfl, rfl⟩) st ?_
    rintro ρ1 σ1 F1 H1 rfl s1
    refine seq_run (W := E0) (J := fun ρ' => ∃ (x' : Ob) (l' : Wt) (c' : Cm) (r' : Option (List Pr2)) (c3 c4 c5 c6 c7 : Sl), ρ' = [.o x', .d (.int (b : Int)), .l ((l'.map (·.1)).map encN), c3, c4, c5, c6, c7] ∧ SameOb x x' ∧ ObIs x' C ss (l ++ l') (c ++ c') r' ∧ JoinIs ss n b0 b q l c l' c' r' (steps ss b).length)
      (s_forL (xs := (steps ss b).map encSt) (fun k ρ' => ∃ (x' : Ob) (l' : Wt) (c' : Cm) (r' : Option (List Pr2)) (c3 c4 c5 c6 c7 : Sl), ρ' = [.o x', .d (.int (b : Int)), .l ((l'.map (·.1)).map encN), c3, c4, c5, c6, c7] ∧ SameOb x x' ∧ ObIs x' C ss (l ++ l') (c ++ c') r' ∧ JoinIs ss n b0 b q l c l' c' r' k)
        (ev_fn (ag_cons (ev_fS rfl hxC) (ag_cons (ev_var rfl) ag_nil)) ⟨n, ss, b, by rw [hx.ss], hss, hp.good, rfl⟩) ⟨x, [], [], none, .u, .u, .u, .u, .u, rfl, ⟨rfl, rfl, rfl, rfl⟩, by rw [List.append_nil, List.append_nil]; exact hx, ⟨by rw [List.append_nil, List.append_nil]; exact hp, (fun j y hj => by omega), (fun rg e => by cases e)⟩⟩ ?_ ?_) s1 ?_
    · rintro k z ρ' hz ⟨x', l', c', r', c3, c4, c5, c6, c7, rfl, hsame, hx', hj⟩
      obtain ⟨y, ey, rfl⟩ := map_get hz
      have hy : y ∈ steps ss b := List.mem_of_getElem? ey
      obtain ⟨y1, y2, y3, y4, y5, y6⟩ := steps_mem hp.good hy
      have hxC' : PCls K x'.C := by rw [hsame.C]; exact hxC
      have hb' : (b, q) ∈ l ++ l' := List.mem_append_left _ hb
      have fW : ∀ {k : Nat} {qk : Rat}, (k, qk) ∈ l ++ l' → find x'.wt k = some (encR qk) := fun h => by
        rw [hx'.wt]
        exact find_of hj.pi.nd h
      have hlen := hj.pi.len
      rw [List.length_append] at hlen
      refine ⟨_, tg_tup rfl (tgA_cons tg_name (tgA_cons tg_name (tgA_cons tg_name (tgA_cons tg_name tgA_nil)))), ?_⟩
      refine s_seq (s_set (ev_times (ev_getW rfl hxC' (ev_var rfl) (fW hb')) (ev_var rfl) okq (y5.mono (by decide))) ?_)
      refine s_if (te_val (ev_ninW rfl hxC' (ev_var rfl))) (fun hnw => ?_) fun hin => ?_
      · have hfn : find x'.wt y.2.2.1 = none := by
          cases e : find x'.wt y.2.2.1 with
          | none => rfl
          | some d => rw [e] at hnw; cases hnw
        have hnot : ∀ a, (y.2.2.1, a) ∉ l ++ l' := find_none (f := encR) (by rw [hx'.wt] at hfn; exact hfn)
        have hfc : find x'.cm y.2.2.1 = none := by
          cases e : find x'.cm y.2.2.1 with
          | none => rfl
          | some d =>
            rw [hx'.cm] at e
            obtain ⟨a, ha, _⟩ := find_some (f := encC) e
            have : y.2.2.1 ∈ (c ++ c').map (·.1) := List.mem_map.mpr ⟨_, ha, rfl⟩
            rw [hj.pi.keys] at this
            obtain ⟨z, hz, ez⟩ := List.mem_map.mp this
            obtain ⟨z1, z2⟩ := z
            have ez : z1 = y.2.2.1 := ez
            subst ez
            exact absurd hz (hnot z2)
        have hlw : x'.wt.length < 1000 := by rw [hx'.wt]; simp [encWt]; omega
        have hlc : x'.cm.length < 1000 := by
          have := hj.pi.lenc
          rw [List.length_append, List.length_append] at this
          rw [hx'.cm]; simp [encCm]; omega
        refine s_seq (s_dputW rfl hxC' (ev_var rfl) (ev_var rfl) hlw fun kw => ?_)
        refine s_seq (s_dputC rfl hxC' (ev_tup (ag_cons (ev_var rfl) (ag_cons (ev_var rfl) (ag_cons (ev_var rfl) ag_nil)))) (ev_var rfl) hlc fun kc => ?_)
        refine s_append (xs := (l'.map (·.1)).map encN) (d := encN y.2.2.1) rfl (ev_var rfl) (by simp; omega) ?_
        refine ⟨{ x' with kw := kw, wt := putD x'.wt y.2.2.1 (encR (q * y.2.2.2)), kc := kc, cm := putD x'.cm y.2.2.1 (.tuple [.int (y.1 : Int), .int (y.2.1 : Int), .int (b : Int)]) }, l' ++ [(y.2.2.1, q * y.2.2.2)], c' ++ [(y.2.2.1, some (y.1, y.2.1, b))], r', .d (.int (y.1 : Int)), .d (.int (y.2.1 : Int)), .d (.int (y.2.2.1 : Int)), .d (encR y.2.2.2), .d (encR (q * y.2.2.2)), ?_, ⟨hsame.C, hsame.a, hsame.dw, hsame.dc⟩, ⟨hx'.C, hx'.ss, ?_, ?_, hx'.rg⟩, ?_⟩
        · rw [List.map_append, List.map_append]
          rfl
        · show putD x'.wt y.2.2.1 (encR (q * y.2.2.2)) = _
          rw [putD_new hfn, hx'.wt]
          simp [encWt]
        · show putD x'.cm y.2.2.1 _ = _
          rw [putD_new hfc, hx'.cm]
          simp [encCm, encC]
        · have hpp := hj.pi.push hb' hy hnot
          rw [List.append_assoc, List.append_assoc] at hpp
          refine ⟨hpp, fun j z hjk ez => ?_, hj.rg⟩
          by_cases hjk' : j < k
          · obtain ⟨qo, h1, h2⟩ := hj.cl j z hjk' ez
            exact ⟨qo, by rw [← List.append_assoc]; exact List.mem_append_left _ h1, h2⟩
          · have : j = k := by omega
            subst this
            rw [ey] at ez
            cases ez
            exact ⟨_, by rw [← List.append_assoc]; exact List.mem_append_right _ List.mem_cons_self, fun _ => rfl⟩
      · obtain ⟨d, hd⟩ : ∃ d, find x'.wt y.2.2.1 = some d := by
          cases e : find x'.wt y.2.2.1 with
          | none => rw [e] at hin; cases hin
          | some d => exact ⟨d, rfl⟩
        have hd2 := hd
        rw [hx'.wt] at hd2
        obtain ⟨qo, hqo, rfl⟩ := find_some (f := encR) hd2
        have next : ∀ r'' : Option (List Pr2), (r'' = none → r' = none ∧ qo = q * y.2.2.2) → (∀ rg, r'' = some rg → IsRing ss rg ∧ rg.length ≤ 50) → JoinIs ss n b0 b q l c l' c' r'' (k + 1) := fun r'' hr1 hr2 => by
          refine ⟨hj.pi, fun j z hjk ez => ?_, hr2⟩
          by_cases hjk' : j < k
          · obtain ⟨qo, h1, h2⟩ := hj.cl j z hjk' ez
            exact ⟨qo, h1, fun e => h2 (hr1 e).1⟩
          · have : j = k := by omega
            subst this
            rw [ey] at ez
            cases ez
            exact ⟨qo, hqo, fun e => (hr1 e).2⟩
        refine s_if (te_and (te_test (ev_op (ev_getW rfl hxC' (ev_var rfl) hd) (ev_var rfl) (od_neD (encR_shaped _) (encR_shaped _)))) fun _ => te_test (ev_op (ev_fR rfl hxC') ev_non od_isN)) (fun hc => ?_) fun hc => s_next ?_
        · rw [Bool.and_eq_true] at hc
          have h1 : qo ≠ q * y.2.2.2 := fun e => by
            have := hc.1
            rw [encR_eqv, e] at this
            simp at this
          have e2 : Ev K (fun _ => False) (tLst (tCons (tTup (tCons (tVar 3) (tCons (tVar 4) tNil))) tNil)) (([.o x', .d (.int (b : Int)), .l ((l'.map (·.1)).map encN), .d (.int (y.1 : Int)), .d (.int (y.2.1 : Int)), .d (.int (y.2.2.1 : Int)), .d (encR y.2.2.2), .d (encR (q * y.2.2.2))] : List Sl)) (.list [encP (y.1, y.2.1)]) := EL.ev (el_lst (ag_cons (ev_tup (ag_cons (ev_var rfl) (ag_cons (ev_var rfl) ag_nil))) ag_nil))
          refine s_ringP (P := fun d => ∃ rg : List Pr2, d = .list (rg.map encP) ∧ IsRing ss rg ∧ rg.length ≤ 50) rfl hxC' (ELN.ev (elN_op (PL := fun xs => ∃ rg : List Pr2, xs = rg.map encP ∧ IsRing ss rg ∧ rg.length ≤ 50)
            (ELN.ev (P := fun d => ∃ xs : List Pr2, d = .list (xs.map encP) ∧ Chain ss xs b0 y.2.2.1 ∧ rprod (xs.map (stepBy ss)) = q * y.2.2.2 ∧ xs.length ≤ 11 ∧ xs ≠ []) (elN_op (PL := fun ys => ∃ xs : List Pr2, ys = xs.map encP ∧ Chain ss xs b0 y.2.2.1 ∧ rprod (xs.map (stepBy ss)) = q * y.2.2.2 ∧ xs.length ≤ 11 ∧ xs ≠ [])
              (ELN.ev (P := fun d => ∃ xs : List Pr2, d = .list (xs.map encP) ∧ Chain ss xs b0 b ∧ rprod (xs.map (stepBy ss)) = q ∧ xs.length ≤ 10) (elN_meth (i := 0) rfl (hsame.C.trans hC) (fun _ _ _ _ => rfl) (ag_cons (ev_var rfl) ag_nil) fun ds e => ⟨_, ⟨C, ss, n, b0, l ++ l', c ++ c', r', b, q, hx', hj.pi, by rw [List.length_append]; omega, e, hb', rfl⟩, fun xs h => h⟩) fun xs ⟨p, e, h⟩ => ⟨p, by rw [e], h⟩)
              e2 fun a d ⟨p, ea, ch, pr, ln⟩ ed => ?_) fun ys ⟨p, e, h⟩ => ⟨p, by rw [e], h⟩)
            (ELN.ev (P := fun d => ∃ xs : List Pr2, d = .list (xs.map encP) ∧ Chain ss xs y.2.2.1 b0 ∧ rprod (xs.map (stepBy ss)) = 1 / qo ∧ xs.length ≤ 10) (elN_meth (i := 0) rfl (hsame.C.trans hC) (fun _ _ _ _ => rfl) (ag_cons (ev_var rfl) ag_nil) fun ds e => ⟨_, ⟨C, ss, n, b0, l ++ l', c ++ c', r', y.2.2.1, qo, hx', hj.pi, by rw [List.length_append]; omega, e, hqo, rfl⟩, fun xs h => h⟩) fun xs ⟨p, e, h⟩ => ⟨p, by rw [e], h⟩)
            fun a d ⟨p, ea, ch, pr, ln, pne⟩ ⟨p2, ed, ch2, pr2, ln2⟩ => ?_) fun xs ⟨rg, e, h⟩ => ⟨rg, by rw [e], h⟩) ?_
          · subst ea ed
            refine ⟨_, ⟨p ++ [(y.1, y.2.1)], rfl, chain_append ch ⟨⟨y1, y2⟩, by rw [y4], by rw [y4]; rfl⟩, ?_, by rw [List.length_append, List.length_singleton]; omega, by simp⟩, ?_⟩
            · rw [List.map_append, rprod_append, pr]
              show q * ((stepBy ss (y.1, y.2.1)).2.2 * 1) = q * y.2.2.2
              rw [y4]
              show q * (y.2.2.2 * 1) = q * y.2.2.2
              grind
            · rw [List.map_append]
              exact ol_cat (by rw [List.length_map]; simp; omega)
          · subst ea ed
            obtain ⟨mo, hmo⟩ := List.getElem?_of_mem hqo
            have qo0 := (hj.pi.sm mo _ qo hmo).2
            refine ⟨_, ⟨p ++ p2, rfl, ring_of (chain_append ch ch2) (by simp [pne]) ?_, by rw [List.length_append]; omega⟩, ?_⟩
            · rw [List.map_append, rprod_append, pr, pr2]
              intro e
              apply h1
              have : qo ≠ 0 := pos_ne qo0
              generalize y.2.2.2 = sh at e
              grind
            · rw [List.map_append]
              exact ol_cat (by rw [List.length_map, List.length_map]; omega)
          · rintro v d ⟨rg, rfl, h2, h3⟩
            exact ⟨{ x' with v4 := v, rg := .list (rg.map encP) }, l', c', some rg, .d (.int (y.1 : Int)), .d (.int (y.2.1 : Int)), .d (.int (y.2.2.1 : Int)), .d (encR y.2.2.2), .d (encR (q * y.2.2.2)), rfl, ⟨hsame.C, hsame.a, hsame.dw, hsame.dc⟩, ⟨hx'.C, hx'.ss, hx'.wt, hx'.cm, rfl⟩, next _ (fun e => by cases e) fun r e => by cases e; exact ⟨h2, h3⟩⟩
        · refine ⟨x', l', c', r', .d (.int (y.1 : Int)), .d (.int (y.2.1 : Int)), .d (.int (y.2.2.1 : Int)), .d (encR y.2.2.2), .d (encR (q * y.2.2.2)), rfl, hsame, hx', next r' (fun e => ⟨e, ?_⟩) hj.rg⟩
          rw [hx'.rg, e, encR_eqv] at hc
          have : isNone (encRg none) = true := rfl
          rw [this, Bool.and_true] at hc
          simpa using hc
    · rintro ρ' ⟨x', l', c', r', c3, c4, c5, c6, c7, rfl, hsame, hx', hj⟩
      rw [List.length_map] at hj
      exact ⟨_, rfl, x', l', c', r', c3, c4, c5, c6, c7, rfl, hsame, hx', hj⟩
    · rintro ρ2 σ2 F2 H2 ⟨x', l', c', r', c3, c4, c5, c6, c7, rfl, hsame, hx', hj⟩ s2
      obtain ⟨a, vs', e2, fa, ha, nh, ha', ra⟩ := ro_own s2 rfl hsame.has (i := 2) (by decide) rfl
      obtain ⟨e1, hb, hne, ob'⟩ := s2.sl.obj (i := 0) rfl
      exact ⟨.ref a, e2, qq x' l' c' r' a vs' F2 H2 hsame hx' hj (rw_step s2 rfl hsame.has ob) (fun b h => (hb b h).1) ob' fa ha nh ha' ra⟩
end
end K57
/-! F18: whole -/
namespace PD
open PySem PySem.Spec PyProof.Rows L2
section
variable {K : PySem.W.Frag} {x : Ob}
theorem ro_retM {F0 F' H H' : Hp} {ρ' : List Sl} {σ' : L2.St} {D : Ends} (s : SSt K (fun _ => False) (hide x H) F0 F' H' ρ' σ') (e : ρ'[0]? = some (.o x)) (ob : ObOk K F0 H x) {i : Nat} {ds : List (Nat × PyData)} (hi : i ≠ 0) (ei : ρ'[i]? = some (.m ds))
    (q : ∀ l kvs, Step (fun _ => False) F0 H F' H' → F' l = none → H l = none → H' l = some (.dK kvs) → RpD K F' kvs ds → D.rt (.ref l) H') : tRet (tVar i) D σ' H' := by
  obtain ⟨l, kvs, e2, fl, _, hl, r⟩ := s.sl.dic ei
  obtain ⟨e1, hb, hne, ob'⟩ := s.sl.obj e
  have h0 := s.own i _ _ l ei e2 rfl
  have nh : ¬ x.has l := fun h => hi (s.dis i 0 _ _ _ _ l ei e2 e e1 rfl h)
  rw [hide_not nh] at h0
  exact ⟨.ref l, e2, q l kvs (ro_step s e ob) fl h0 hl r⟩
end
end PD
namespace K57
open PySem PySem.Spec PyProof.Rows L2 PD M
def botUp (l : Wt) : Nat → Nat
  | 0 => 1
  | k + 1 => match l[k]? with
    | some y => botUp l k * (y.2.den / Nat.gcd y.2.den (botUp l k))
    | none => botUp l k
def zOf (B : Nat) (q : Rat) : Int := q.num * ((B / q.den : Nat) : Int)
def byUp (l : Wt) (B : Nat) : Nat → Nat
  | 0 => 0
  | k + 1 => match l[k]? with
    | some y => Int.gcd (byUp l B k : Nat) (zOf B y.2)
    | none => byUp l B k
def bot (l : Wt) : Nat := botUp l l.length
def byOf (l : Wt) : Nat := byUp l (bot l) l.length
def wholeD (l : Wt) : List (Nat × PyData) := l.map fun y => (y.1, .int ((zOf (bot l) y.2).fdiv (byOf l : Nat)))
structure SmW (l : Wt) : Prop where
  len : l.length ≤ 10
  sm : ∀ y ∈ l, Sm 110 y.2 ∧ 0 < y.2
  nd : (l.map (·.1)).Nodup
theorem botUp_lt {l : Wt} (h : SmW l) : ∀ k, botUp l k < 2 ^ (110 * k + 1) ∧ 0 < botUp l k
  | 0 => ⟨show (1 : Nat) < 2 ^ 1 by decide, Nat.one_pos⟩
  | k + 1 => by
    obtain ⟨h1, h2⟩ := botUp_lt h k
    unfold botUp
    split
    · rename_i y ey
      have hy := (h.sm y (List.mem_of_getElem? ey)).1.2
      have g0 : 0 < Nat.gcd y.2.den (botUp l k) := Nat.gcd_pos_of_pos_left _ y.2.den_pos
      have hle : y.2.den / Nat.gcd y.2.den (botUp l k) ≤ y.2.den := Nat.div_le_self _ _
      have hp : 0 < y.2.den / Nat.gcd y.2.den (botUp l k) := Nat.div_pos (Nat.le_of_dvd y.2.den_pos (Nat.gcd_dvd_left ..)) g0
      refine ⟨?_, Nat.mul_pos h2 hp⟩
      have := mul_lt_pow h1 (Nat.lt_of_le_of_lt hle hy)
      exact Nat.lt_of_lt_of_le this (Nat.pow_le_pow_right (by decide) (by omega))
    · exact ⟨Nat.lt_of_lt_of_le h1 (Nat.pow_le_pow_right (by decide) (by omega)), h2⟩
theorem bot_lt {l : Wt} (h : SmW l) : bot l < 2 ^ 1101 ∧ 0 < bot l := by
  obtain ⟨h1, h2⟩ := botUp_lt h l.length
  exact ⟨Nat.lt_of_lt_of_le h1 (Nat.pow_le_pow_right (by decide) (by have := h.len; omega)), h2⟩
theorem zOf_lt {l : Wt} (h : SmW l) {y : Nat × Rat} (hy : y ∈ l) : (zOf (bot l) y.2).natAbs < 2 ^ 1211 := by
  unfold zOf
  rw [Int.natAbs_mul]
  refine mul_lt_pow (m := 110) (n := 1101) (h.sm y hy).1.1 ?_
  exact Nat.lt_of_le_of_lt (Nat.div_le_self _ _) (bot_lt h).1
/-- a divisor of the first one -/
theorem botUp_dvd {l : Wt} : ∀ {k j : Nat} {y : Nat × Rat}, j < k → l[j]? = some y → y.2.den ∣ botUp l k
  | k + 1, j, y, hj, e => by
    unfold botUp
    by_cases h : j = k
    · subst h
      rw [e]
      simp only
      have h1 : y.2.den = Nat.gcd y.2.den (botUp l j) * (y.2.den / Nat.gcd y.2.den (botUp l j)) := (Nat.mul_div_cancel' (Nat.gcd_dvd_left ..)).symm
      have h2 : Nat.gcd y.2.den (botUp l j) ∣ botUp l j := Nat.gcd_dvd_right ..
      have h3 := Nat.mul_dvd_mul_right h2 (y.2.den / Nat.gcd y.2.den (botUp l j))
      rw [← h1] at h3
      exact h3
    · have ih := botUp_dvd (show j < k by omega) e
      split
      · exact Nat.dvd_trans ih (Nat.dvd_mul_right ..)
      · exact ih
theorem bot_dvd {l : Wt} {y : Nat × Rat} (h : y ∈ l) : y.2.den ∣ bot l := by
  obtain ⟨j, e⟩ := List.getElem?_of_mem h
  exact botUp_dvd (List.getElem?_eq_some_iff.mp e).1 e
theorem num_pos {q : Rat} (h : 0 < q) : 0 < q.num := by
  have h1 := Rat.num_nonneg.mpr (Rat.le_of_lt h)
  have h2 : q.num ≠ 0 := num_ne (pos_ne h)
  omega
theorem zOf_pos {l : Wt} (h : SmW l) {y : Nat × Rat} (hy : y ∈ l) : 0 < zOf (bot l) y.2 := by
  unfold zOf
  have h1 := num_pos (h.sm y hy).2
  have h2 : 0 < bot l / y.2.den := Nat.div_pos (Nat.le_of_dvd (bot_lt h).2 (bot_dvd hy)) y.2.den_pos
  exact Int.mul_pos h1 (by omega)
theorem byUp_dvd {l : Wt} {B : Nat} : ∀ {k j : Nat} {y : Nat × Rat}, j < k → l[j]? = some y → (byUp l B k : Int) ∣ zOf B y.2
  | k + 1, j, y, hj, e => by
    unfold byUp
    by_cases h : j = k
    · subst h
      rw [e]
      exact Int.gcd_dvd_right ..
    · have ih := byUp_dvd (B := B) (show j < k by omega) e
      split
      · exact Int.dvd_trans (Int.gcd_dvd_left ..) ih
      · exact ih
theorem byOf_dvd {l : Wt} {y : Nat × Rat} (h : y ∈ l) : (byOf l : Int) ∣ zOf (bot l) y.2 := by
  obtain ⟨j, e⟩ := List.getElem?_of_mem h
  exact byUp_dvd (List.getElem?_eq_some_iff.mp e).1 e
theorem byOf_lt {l : Wt} (h : SmW l) (hne : l ≠ []) : byOf l ≠ 0 ∧ byOf l < 2 ^ 1211 := by
  cases l with
  | nil => exact absurd rfl hne
  | cons y l =>
    have hy : y ∈ y :: l := List.mem_cons_self
    have hz := zOf_pos h hy
    have hd := byOf_dvd hy
    have hl := zOf_lt h hy
    have h0 : byOf (y :: l) ≠ 0 := fun e => by
      rw [e] at hd
      have := Int.zero_dvd.mp hd
      omega
    have := Nat.le_of_dvd (by omega) (Int.natAbs_dvd_natAbs.mpr hd)
    exact ⟨h0, by rw [Int.natAbs_natCast] at this; omega⟩
def spWhole (K : PySem.W.Frag) (C : Addr) : Sp := fun vs H Q _ => ∃ (F : Hp) (x : Ob) (ss : List Sg) (l : Wt) (c : Cm) (r : Option (List Pr2)), vs = [.ref x.a] ∧ x.C = C ∧ Same F H ∧ (∀ b, x.has b → F b = none) ∧ x.dw ≠ x.dc ∧ ObOk K F H x ∧ ObIs x C ss l c r ∧ SmW l ∧ l ≠ [] ∧
  ∀ (a : Addr) (kvs : List (Key × V)) (F' H' : Hp), Step (fun _ => False) F H F' H' → F' a = none → H a = none → H' a = some (.dK kvs) → RpD K F' kvs (wholeD l) → Q (.ref a) H'
section
variable {P : Program} {w : World} {K : PySem.W.Frag} {mg : Str → Option Value} {base : Heap}
theorem sc_Part_whole : FnScope ["self", "bottom", "weight", "by", "found", "ball"] ["self"] (defScope (inClass (top 24) 4)) := ⟨rfl, rfl, rfl, by decide +kernel, rfl, by decide +kernel, by decide +kernel⟩
theorem ok_Part_whole {f aN aO : Addr} {fd : FuncData} (T : Txt K mg aN aO) {C : Addr} (PC : PCls K C)  (C_divisor_of : Cal P w K mg base CX0 1 "divisor_of" ["one", "other"] [] (spF K R_divisor_of))  (F : FunD K "whole" "Part.whole" (defArgs (inClass (top 24) 4)) (defBody (inClass (top 24) 4)) (defScope (inClass (top 24) 4)) [] [] f fd) : FnOk P w K mg base CX0 2 f fd ["self"] (spWhole K C) := by
  refine F.ok sc_Part_whole (fun vs H Q W h => ?_) (fun cdv A outer s H vs Q W hr h => ⟨_, (pss_cons (ps_set (i := 1) sc_Part_whole.nd rfl (Or.inl rfl) pe_int)
      (pss_cons (ps_lock (ps_for (passes_of rfl) rfl (pi_values (pe_fld (pv 0) rfl)) (pg_name (i := 2) sc_Part_whole.nd rfl (Or.inl rfl)) (pss_one (ps_set (i := 1) sc_Part_whole.nd rfl (Or.inl rfl) (pe_op op_mulW (pv 1) (pe_op op_fdivZ (pe_ix ix_tup (pv 2) pe_int (fun _ _ => rfl)) (pe_cal C_divisor_of (hr.mono (by decide)) pass0 (pa_cons (pe_ix ix_tup (pv 2) pe_int (fun _ _ => rfl)) (pa_cons (pv 1) pa_nil)))))))))
      (pss_cons (ps_set (i := 3) sc_Part_whole.nd rfl (Or.inl rfl) pe_int)
      (pss_cons (ps_lock (ps_for (passes_of rfl) rfl (pi_values (pe_fld (pv 0) rfl)) (pg_name (i := 2) sc_Part_whole.nd rfl (Or.inl rfl)) (pss_one (ps_set (i := 3) sc_Part_whole.nd rfl (Or.inl rfl) (pe_cal C_divisor_of (hr.mono (by decide)) pass0 (pa_cons (pv 3) (pa_cons (pe_op op_mulW (pe_ix ix_tup (pv 2) pe_int (fun _ _ => rfl)) (pe_op op_fdivZ (pv 1) (pe_ix ix_tup (pv 2) pe_int (fun _ _ => rfl)))) pa_nil)))))))
      (pss_cons (ps_set (i := 4) sc_Part_whole.nd rfl (Or.inl rfl) pe_dnewK)
      (pss_cons (ps_lock (ps_for (passes_of rfl) rfl (pi_items (pe_fld (pv 0) rfl)) (pg_tup rfl (pgs_cons (pg_name (i := 5) sc_Part_whole.nd rfl (Or.inl rfl)) (pgs_cons (pg_name (i := 2) sc_Part_whole.nd rfl (Or.inl rfl)) pgs_nil))) (pss_one (ps_dput (hu_of hr) (pv 4) (pv 5) (pe_op op_fdivZ (pe_op op_mulW (pe_ix ix_tup (pv 2) pe_int (fun _ _ => rfl)) (pe_op op_fdivZ (pv 1) (pe_ix ix_tup (pv 2) pe_int (fun _ _ => rfl)))) (pv 3)) rfl))))
      (pss_one (ps_ret (pv 4))))))))), ?_⟩)
  · obtain ⟨Fz, x, ss, l, c, r, rfl, _⟩ := h
    rfl
  · obtain ⟨Fz, x, ss, l, c, r, rfl, hC, sm, hf, hne, ob, hx, hw, hl0, qq⟩ := h
    have st := initO_ok (N := ["self", "bottom", "weight", "by", "found", "ball"]) (ds := []) (vs := []) sm .nil hf hne ob
    have hxC : PCls K x.C := by rw [hC]; exact PC
    have wt_at : ∀ {k : Nat} {y : Nat × PyData}, x.wt[k]? = some y → ∃ z, l[k]? = some z ∧ y = (z.1, encR z.2) := fun {k y} e => by
      rw [hx.wt] at e
      unfold encWt at e
      rw [List.getElem?_map] at e
      cases q : l[k]? with
      | none => rw [q] at e; cases e
      | some z => rw [q] at e; cases e; exact ⟨z, rfl, rfl⟩
    have wt_len : x.wt.length = l.length := by rw [hx.wt]; simp [encWt]
    have hlen := hw.len
    have hB := bot_lt hw
    have hby := byOf_lt hw hl0
    refine seq_run (W := E0) (J := fun ρ' => ρ' = [.o x, .d (.int 1), .u, .u, .u, .u]) (s_set ev_int ⟨_, rfl, rfl⟩) st ?_
    rintro ρ1 σ1 F1 H1 rfl s1
    refine seq_run (W := E0) (J := fun ρ' => ∃ c2 : Sl, ρ' = [.o x, .d (.int (bot l : Nat)), c2, .u, .u, .u]) (s_forV (i := 0) rfl hxC (fun k ρ' => ∃ c2 : Sl, ρ' = [.k (.ref x.a), .d (.int (botUp l k : Nat)), c2, .u, .u, .u]) ⟨_, rfl⟩ (by rintro k ρ' ⟨c2, rfl⟩; rfl) ?_ ?_) s1 ?_
    · rintro k y ρ' ey ⟨c2, rfl⟩
      obtain ⟨z, ez, rfl⟩ := wt_at ey
      have hk := (List.getElem?_eq_some_iff.mp ez).1
      obtain ⟨b1, b2⟩ := botUp_lt hw k
      have hz := (hw.sm z (List.mem_of_getElem? ez)).1
      have g0 : 0 < Nat.gcd z.2.den (botUp l k) := Nat.gcd_pos_of_pos_left _ z.2.den_pos
      have gle : Nat.gcd z.2.den (botUp l k) ≤ z.2.den := Nat.le_of_dvd z.2.den_pos (Nat.gcd_dvd_left ..)
      have hd : ((z.2.den : Int)).fdiv ((Int.gcd (z.2.den : Int) (botUp l k : Nat) : Nat) : Int) = ((z.2.den / Nat.gcd z.2.den (botUp l k) : Nat) : Int) := by
        rw [gcd_cast, Int.ofNat_fdiv]
      have eb : botUp l (k + 1) = botUp l k * (z.2.den / Nat.gcd z.2.den (botUp l k)) := by
        show (match l[k]? with | some y => _ | none => _) = _
        rw [ez]
      have hp : (2 : Nat) ^ (110 * k + 1) ≤ 2 ^ 1101 := Nat.pow_le_pow_right (by decide) (by omega)
      refine ⟨_, tg_name, s_set (Ev.eq (ev_mul (ev_var (d := .int (botUp l k : Nat)) rfl) (ev_op (ev_den (x := z.2) (ev_var rfl)) (ev_fn (ag_cons (ev_den (x := z.2) (ev_var rfl)) (ag_cons (ev_var rfl) ag_nil)) ⟨(z.2.den : Int), (botUp l k : Nat), rfl, rfl⟩) (od_fdiv ⟨by rw [gcd_cast]; omega, ?_⟩)) ?_) ?_) ⟨_, rfl, .d (encR z.2), rfl⟩⟩
      · rw [gcd_cast]
        exact Nat.lt_trans (log_lt (k := 110) (by have := hz.2; omega) (by decide)) (by decide)
      · rw [hd]
        refine cmul (m := 1101) (n := 110) (by omega) ?_
        exact Nat.lt_of_le_of_lt (Nat.div_le_self _ _) hz.2
      · rw [hd, eb, Int.natCast_mul]
    · rintro ρ' ⟨c2, rfl⟩
      rw [wt_len]
      exact ⟨_, rfl, c2, rfl⟩
    rintro ρ2 σ2 F2 H2 ⟨c2, rfl⟩ s2
    have hzd : ∀ {z : Nat × Rat}, z ∈ l → CDivZ ((bot l : Nat) : Int) (z.2.den : Int) := fun {z} hz => ⟨by have := z.2.den_nz; omega, Nat.lt_trans (log_lt (k := 110) (by have := (hw.sm z hz).1.2; omega) (by decide)) (by decide)⟩
    have hze : ∀ {z : Nat × Rat}, z.2.num * ((bot l : Nat) : Int).fdiv (z.2.den : Int) = zOf (bot l) z.2 := fun {z} => by
      unfold zOf
      rw [Int.ofNat_fdiv]
    have hzm : ∀ {z : Nat × Rat}, z ∈ l → CMulW z.2.num (((bot l : Nat) : Int).fdiv (z.2.den : Int)) := fun {z} hz => by
      rw [← Int.ofNat_fdiv]
      exact cmul (m := 110) (n := 1101) (hw.sm z hz).1.1 (Nat.lt_of_le_of_lt (Nat.div_le_self _ _) hB.1)
    have ez : ∀ {M : Addr → Prop} {ρ : List Sl} {z : Nat × Rat}, z ∈ l → ρ[1]? = some (.d (.int (bot l : Nat))) → ρ[2]? = some (.d (encR z.2)) → Ev K M (tOp (rI CMulW fun i j => .int (i * j)) (tOp (rIxT K) (tVar 2) (tC (.int 0))) (tOp (rI CDivZ fun i j => .int (i.fdiv j)) (tVar 1) (tOp (rIxT K) (tVar 2) (tC (.int 1))))) ρ (.int (zOf (bot l) z.2)) := fun {M ρ z} hz g1 g2 =>
      (ev_mul (ev_num (ev_var g2)) (ev_op (ev_var g1) (ev_den (ev_var g2)) (od_fdiv (hzd hz))) (hzm hz)).eq (by rw [hze])
    refine seq_run (W := E0) (J := fun ρ' => ρ' = [.o x, .d (.int (bot l : Nat)), c2, .d (.int 0), .u, .u]) (s_set ev_int ⟨_, rfl, rfl⟩) s2 ?_
    rintro ρ3 σ3 F3 H3 rfl s3
    refine seq_run (W := E0) (J := fun ρ' => ∃ c2 : Sl, ρ' = [.o x, .d (.int (bot l : Nat)), c2, .d (.int (byOf l : Nat)), .u, .u]) (s_forV (i := 0) rfl hxC (fun k ρ' => ∃ c2 : Sl, ρ' = [.k (.ref x.a), .d (.int (bot l : Nat)), c2, .d (.int (byUp l (bot l) k : Nat)), .u, .u]) ⟨_, rfl⟩ (by rintro k ρ' ⟨c2, rfl⟩; rfl) ?_ ?_) s3 ?_
    · rintro k y ρ' ey ⟨c2, rfl⟩
      obtain ⟨z, ez', rfl⟩ := wt_at ey
      have hz := List.mem_of_getElem? ez'
      have eb : byUp l (bot l) (k + 1) = Int.gcd (byUp l (bot l) k : Nat) (zOf (bot l) z.2) := by
        show (match l[k]? with | some y => _ | none => _) = _
        rw [ez']
      refine ⟨_, tg_name, s_set (ev_fn (ag_cons (ev_var rfl) (ag_cons (ez hz rfl rfl) ag_nil)) ⟨(byUp l (bot l) k : Nat), zOf (bot l) z.2, rfl, rfl⟩) ⟨_, rfl, .d (encR z.2), ?_⟩⟩
      rw [eb]
      rfl
    · rintro ρ' ⟨c2, rfl⟩
      rw [wt_len]
      exact ⟨_, rfl, c2, rfl⟩
    rintro ρ4 σ4 F4 H4 ⟨c2', rfl⟩ s4
    refine seq_run (W := E0) (J := fun ρ' => ρ' = [.o x, .d (.int (bot l : Nat)), c2', .d (.int (byOf l : Nat)), .m [], .u]) (s_newM ⟨_, rfl, rfl⟩) s4 ?_
    rintro ρ5 σ5 F5 H5 rfl s5
    refine seq_run (W := E0) (J := fun ρ' => ∃ c2 c5 : Sl, ρ' = [.o x, .d (.int (bot l : Nat)), c2, .d (.int (byOf l : Nat)), .m (wholeD l), c5]) (s_forI (i := 0) rfl hxC (fun k ρ' => ∃ c2 c5 : Sl, ρ' = [.k (.ref x.a), .d (.int (bot l : Nat)), c2, .d (.int (byOf l : Nat)), .m ((wholeD l).take k), c5]) ⟨_, _, rfl⟩ (by rintro k ρ' ⟨c2, c5, rfl⟩; rfl) ?_ ?_) s5 ?_
    · rintro k y ρ' ey ⟨c2, c5, rfl⟩
      obtain ⟨z, ez', rfl⟩ := wt_at ey
      have hz := List.mem_of_getElem? ez'
      have hk := (List.getElem?_eq_some_iff.mp ez').1
      have ew : (wholeD l)[k]? = some (z.1, .int ((zOf (bot l) z.2).fdiv (byOf l : Nat))) := by
        unfold wholeD
        rw [List.getElem?_map, ez']
        rfl
      have hfn : find ((wholeD l).take k) z.1 = none := by
        cases q : find ((wholeD l).take k) z.1 with
        | none => rfl
        | some d =>
          have h1 : (find ((wholeD l).take k) z.1).isSome = true := by rw [q]; rfl
          obtain ⟨y, hy, e1⟩ := find_isSome.mp h1
          obtain ⟨j, hj⟩ := List.getElem?_of_mem hy
          have hjk := (List.getElem?_eq_some_iff.mp hj).1
          rw [List.length_take] at hjk
          rw [List.getElem?_take_of_lt (by omega)] at hj
          unfold wholeD at hj
          rw [List.getElem?_map] at hj
          cases q2 : l[j]? with
          | none => rw [q2] at hj; cases hj
          | some z2 =>
            rw [q2] at hj
            cases hj
            have a1 : (l.map (·.1))[j]? = some z.1 := by rw [List.getElem?_map, q2]; exact congrArg some e1
            have a2 : (l.map (·.1))[k]? = some z.1 := by rw [List.getElem?_map, ez']; rfl
            have := (List.getElem?_inj (by rw [List.length_map]; omega) hw.nd).mp (a1.trans a2.symm)
            omega
      refine ⟨_, tg_tup rfl (tgA_cons tg_name (tgA_cons tg_name tgA_nil)), s_dputM rfl (ev_op (ez hz rfl rfl) (ev_var rfl) (od_fdiv ⟨by omega, Nat.lt_trans (log_lt (k := 1211) (by omega) (by decide)) (by decide)⟩)) (ev_var rfl) (by rw [List.length_take]; omega) ⟨_, rfl, .d (encR z.2), .d (.int (z.1 : Int)), ?_⟩⟩
      rw [putD_new hfn, take_succ' ew]
      rfl
    · rintro ρ' ⟨c2, c5, rfl⟩
      have : (wholeD l).take x.wt.length = wholeD l := by
        rw [wt_len]
        exact List.take_of_length_le (by simp [wholeD])
      rw [this]
      exact ⟨_, rfl, c2, c5, rfl⟩
    rintro ρ6 σ6 F6 H6 ⟨c2'', c5, rfl⟩ s6
    exact ro_retM s6 rfl ob (i := 4) (by decide) rfl fun a kvs h1 h2 h3 h4 h5 => qq a kvs F6 H6 h1 h2 h3 h4 h5
end
end K57
/-! F19: Part.__init__ -/
namespace PD
open PySem PySem.Spec PyProof.Rows L2
section
variable {K : PySem.W.Frag} {M : Addr → Prop} {W : XK} {ρ : List Sl} {te : TE} {i : Nat} {xs : List PyData} {d : PyData}
theorem ev_neO (e : ρ[i]? = some (.l xs)) (hb : Ev K M te ρ d) (h1 : SeqAt.shaped (.list xs) = true) (h2 : SeqAt.shaped d = true) : Ev K M (tOp (rNeD K) (tVar i) te) ρ (.bool (!PyData.eqv (.list xs) d)) := fun F H σ s o Q q => by
  obtain ⟨a, vs, e2, fa, ma, ha, r⟩ := o.own e
  refine ⟨.ref a, e2, hb F H σ s o _ fun d2 v2 F2 H2 p2 st2 rd2 => ?_⟩
  subst p2
  exact ⟨.list xs, d2, .lst (.of (st2.hh _ _ ha ma)) (RpA.dp (st2.ff.trans st2.fh) xs _ r), Rp.dp st2.fh d2 v2 rd2, h1, h2, q _ _ F2 H2 rfl st2 (.bl _)⟩
theorem run_S {t : TS} {Φ : Out → Prop} {H0 F0 F H : Hp} {σ : L2.St} {D : Ends} (h : S K M W t ρ Φ) (s : SSt K M H0 F0 F H ρ σ) (hn : ∀ o, Φ o → ∃ ρ', o = .nx ρ') (k : ∀ ρ' σ' F' H', Φ (.nx ρ') → SSt K M H0 F0 F' H' ρ' σ' → D.nx σ' H') : t D σ H := by
  refine h H0 F0 F H σ D s (fun ρ' σ' F' H' e s' => k _ _ _ _ e s') (fun d v F' H' e st rv => ?_) (fun ρ' σ' F' H' e s' => ?_) (fun ρ' σ' F' H' e s' => ?_) (fun C dd F' H' e st => ?_)
  · obtain ⟨_, z⟩ := hn _ e; cases z
  · obtain ⟨_, z⟩ := hn _ e; cases z
  · obtain ⟨_, z⟩ := hn _ e; cases z
  · obtain ⟨_, z⟩ := hn _ e; cases z
end
end PD
namespace K57
open PySem PySem.Spec PyProof.Rows L2 PD M
section
variable {K : PySem.W.Frag} {C : Addr}
/-- rim.extend(self.joined(here)) -/
theorem s_extJoin {W W' : XK} {ρ : List Sl} {i j h : Nat} {Φ : Out → Prop} {x : Ob} {xs : List PyData} {b : Nat} {q : Rat} {ss : List Sg} {n b0 : Nat} {l : Wt} {c : Cm} (ei : ρ[i]? = some (.o x)) (ej : ρ[j]? = some (.l xs)) (eh : ρ[h]? = some (.d (.int (b : Int)))) (hij : i ≠ j) (hC : x.C = C)
    (hx : ObIs x C ss l c none) (hp : PI ss n b0 l c) (hn : n ≤ 10) (hss : ss.length ≤ 100) (hb : (b, q) ∈ l) (hl : xs.length ≤ 100)
    (k : ∀ x' l' c' r', SameOb x x' → ObIs x' C ss (l ++ l') (c ++ c') r' → JoinIs ss n b0 b q l c l' c' r' (steps ss b).length → Φ (.nx ((ρ.set i (.o x')).set j (.l (xs ++ (l'.map (·.1)).map encN))))) :
    S K (fun _ => False) W (tDrop (tBM K "list" rExtend (tVar j) (tCons (tMeth C "joined" (spJoin K C) [] W' (tVar i) (tCons (tVar h) tNil)) tNil))) ρ Φ := fun H0 F0 F H σ D s k1 _ _ _ _ => by
  obtain ⟨aj, vs, ej2, fj, mj, hj, rj⟩ := s.sl.own ej
  obtain ⟨ei2, hbs, hne, ob⟩ := s.sl.obj ei
  obtain ⟨v, eh2, rv⟩ := s.sl.var eh
  refine ⟨.ref aj, ej2, .inl ⟨rfl, vs, .of hj⟩, .ref x.a, ei2, x.a, x.dx, _, rfl, by rw [← hC]; exact ob.1, rfl, v, eh2, F, x, ss, n, b0, b, q, l, c, by rw [rv.int_]; rfl, hC, s.st.fh, fun b h => (hbs b h).1, hne, ob, hx, hp, hn, hss, hb, fun x' l' c' r' a vs' F' H' hsame hx' hjn st hf' ob' fa ha nh ha' ra => ?_⟩
  have s1 : SSt K (fun _ => False) H0 F0 F' H' (ρ.set i (.o x')) σ := s.mut ei ei2 st ⟨by rw [hsame.a], fun b h => ⟨hf' b h, id⟩, by rw [hsame.dw, hsame.dc]; exact hne, ob'⟩ fun b h => (hsame.has b).mp h
  have ej1 : (ρ.set i (.o x'))[j]? = some (.l xs) := by rw [List.getElem?_set_ne hij]; exact ej
  obtain ⟨aj', vs2, q1, fj', mj', hj', rj'⟩ := s1.sl.own ej1
  rw [ej2] at q1
  cases q1
  have hl' := hjn.pi.len
  rw [List.length_append] at hl'
  have hlv : vs'.length = l'.length := by have := ra.length; simpa using this
  refine ⟨aj, a, vs2, vs', rfl, rfl, hj', ha', Nat.le_of_lt (small (by rw [rj'.length, hlv]; omega)), k1 _ _ F' _ (k x' l' c' r' hsame hx' hjn) (s1.putL ej1 ej2 fj' mj' (rj'.append ra))⟩
end
/-- what Part(..) makes -/
structure PartIs (ss : List Sg) (n b : Nat) (l : Wt) (c : Cm) (r : Option (List Pr2)) : Prop where
  pi : PI ss n b l c
  cl : r = none → ∀ k qk, (k, qk) ∈ l → ∀ y ∈ steps ss k, (y.2.2.1, qk * y.2.2.2) ∈ l
  rg : ∀ rg, r = some rg → IsRing ss rg ∧ rg.length ≤ 50
def spPart (K : PySem.W.Frag) (C : Addr) : Sp := fun vs H Q _ => ∃ (F : Hp) (a dx : Addr) (v : V) (ss : List Sg) (n b : Nat), vs = [.ref a, v, .int (b : Int)] ∧ Same F H ∧ F a = none ∧ H a = some (.ins C dx []) ∧ Rp K F v (.list (ss.map encS)) ∧ (∀ s ∈ ss, Good n s) ∧ b < n ∧ n ≤ 10 ∧ ss.length ≤ 100 ∧
  ∀ (x : Ob) (l : Wt) (c : Cm) (r : Option (List Pr2)) (F' H' : Hp), x.a = a → ObIs x C ss l c r → PartIs ss n b l c r → Step (fun b => b = a) F H F' H' → (∀ b, x.has b → F' b = none) → x.dw ≠ x.dc → H x.dw = none → H x.dc = none → ObOk K F' H' x → Q .non H'
theorem steps_all {ss : List Sg} {b : Nat} {y : St4} (h : y ∈ steps ss b) : ∃ j, j < (steps ss b).length ∧ (steps ss b)[j]? = some y := by
  obtain ⟨j, e⟩ := List.getElem?_of_mem h
  exact ⟨j, (List.getElem?_eq_some_iff.mp e).1, e⟩
theorem encN_flat (n : Nat) : flatD (encN n) := ⟨rfl, show (0 : Nat) ≤ 30 by decide⟩
section
variable {P : Program} {w : World} {K : PySem.W.Frag} {mg : Str → Option Value} {base : Heap}
theorem sc_Part_init : FnScope ["self", "sightings", "ball", "rim", "here"] ["self", "sightings", "ball"] (defScope (inClass (top 24) 0)) := ⟨rfl, rfl, rfl, by decide +kernel, rfl, by decide +kernel, by decide +kernel⟩
theorem ok_Part_init {f aN aO : Addr} {fd : FuncData} (T : Txt K mg aN aO) {C : Addr} (PC : PCls K C)   (MC_joined : MCal P w K mg base CX0 7 C "joined" ["self", "ball"] (spJoin K C)) (F : FunD K "__init__" "Part.__init__" (defArgs (inClass (top 24) 0)) (defBody (inClass (top 24) 0)) (defScope (inClass (top 24) 0)) [] [] f fd) : FnOk P w K mg base CX0 8 f fd ["self", "sightings", "ball"] (spPart K C) := by
  refine F.ok sc_Part_init (fun vs H Q W h => ?_) (fun cdv A outer s H vs Q W hr h => ⟨_, (pss_cons (ps_fld (pv 0) (pv 1) rfl)
      (pss_cons (ps_fld (pv 0) (pe_disp (pps_cons (pv 2) (pe_gtup T.cONE) pps_nil) rfl rfl (by simp) (by decide)) rfl)
      (pss_cons (ps_fld (pv 0) (pe_disp (pps_cons (pv 2) pe_non pps_nil) rfl rfl (by simp) (by decide)) rfl)
      (pss_cons (ps_fld (pv 0) pe_non rfl)
      (pss_cons (ps_set (i := 3) sc_Part_init.nd rfl (Or.inl rfl) (pe_lst (pa_cons (pv 2) pa_nil)))
      (pss_one (ps_while (passes_of rfl) (PW.pt (pw_and (pt_cmpR (op_neD hr.units) (pv 3) (pe_lst pa_nil) (nomark _)) (pw_and1 (pt_cmpR op_isN (pe_fld (pv 0) rfl) pe_non (nomark _))))) (pss_cons (ps_set (i := 4) sc_Part_init.nd rfl (Or.inl rfl) (pe_bm PySem.F.plainAttrs_list PySem.F.slot_list_pop PySem.F.type_list_pop mt_popAt (pv 3) (pa_cons pe_int pa_nil)))
      (pss_one (ps_expr (pe_bm PySem.F.plainAttrs_list PySem.F.slot_list_extend PySem.F.type_list_extend mt_extend (pv 3) (pa_cons (pe_mcal MC_joined PC.c (hr.mono (by decide)) pass0 (pv 0) (pa_cons (pv 4) pa_nil)) pa_nil)))))))))))), ?_⟩)
  · obtain ⟨Fz, a, dx, v, ss, n, b, rfl, _⟩ := h
    rfl
  · obtain ⟨Fz, a, dx, v, ss, n, b, rfl, sm, fa, ha, rv, hg, hbn, hn, hss, qq⟩ := h
    refine ⟨v, rfl, .ref a, rfl, a, C, dx, [], rfl, ha, PC.c, PC.n1, show 0 < 1000 by decide, ?_⟩
    intro p np
    have npa : p ≠ a := fun e => by rw [e, upd_same] at np; cases np
    have np0 : H p = none := by rw [upd_ne npa] at np; exact np
    refine ⟨_, rfl, upd_same, [(.inl (b : Int), .ref aO)], rfl, show 1 ≤ 15 by decide, ?_⟩
    refine ⟨.ref a, rfl, a, C, dx, [("sightings", v)], rfl, ?_, PC.c, PC.n2, show 1 < 1000 by decide, ?_⟩
    · rw [upd_ne (Ne.symm npa), upd_ne (Ne.symm npa), upd_same]
      rfl
    intro q nq
    have nqa : q ≠ a := fun e => by rw [e, upd_same] at nq; cases nq
    have nqp : q ≠ p := fun e => by rw [upd_ne nqa, e, upd_same] at nq; cases nq
    have nq0 : H q = none := by rw [upd_ne nqa, upd_ne nqp, upd_ne nqp, upd_ne nqa] at nq; exact nq
    refine ⟨_, rfl, upd_same, [(.inl (b : Int), .non)], rfl, show 1 ≤ 15 by decide, ?_⟩
    refine ⟨.ref a, rfl, a, C, dx, [("sightings", v), ("weights", .ref p)], rfl, ?_, PC.c, PC.n3, show 2 < 1000 by decide, ?_⟩
    · rw [upd_ne (Ne.symm nqa), upd_ne (Ne.symm nqa), upd_same]
      rfl
    refine ⟨.ref a, rfl, a, C, dx, [("sightings", v), ("weights", .ref p), ("came", .ref q)], rfl, upd_same, PC.c, PC.n4, show 3 < 1000 by decide, ?_⟩
    let x : Ob := ⟨C, a, dx, p, q, v, .non, [(.inl (b : Int), .ref aO)], [(.inl (b : Int), .non)], .list (ss.map encS), encWt [(b, 1)], encCm [(b, none)], .none⟩
    have hfx : ∀ b, x.has b → Fz b = none := by
      rintro b' (rfl | rfl | rfl)
      · exact fa
      · exact sm.free np0
      · exact sm.free nq0
    generalize hH : upd (upd (upd (upd (upd (upd (upd (upd H a (.ins C dx (putF "sightings" v []))) p (.dK [])) p (.dK (mergeK [] [(.inl (b : Int), .ref aO)]))) a (.ins C dx (putF "weights" (.ref p) [("sightings", v)]))) q (.dK [])) q (.dK (mergeK [] [(.inl (b : Int), .non)]))) a (.ins C dx (putF "came" (.ref q) [("sightings", v), ("weights", .ref p)]))) a (.ins C dx (putF "ring" .non [("sightings", v), ("weights", .ref p), ("came", .ref q)])) = H4
    have hHo : ∀ b', b' ≠ a → b' ≠ p → b' ≠ q → H4 b' = H b' := fun b' g1 g2 g3 => by
      rw [← hH, upd_ne g1, upd_ne g1, upd_ne g3, upd_ne g3, upd_ne g1, upd_ne g2, upd_ne g2, upd_ne g1]
    have ob : ObOk K Fz H4 x := by
      refine ⟨?_, ?_, ?_, rv, .non, ?_, ?_⟩
      · rw [← hH]
        exact upd_same
      · show H4 p = _
        rw [← hH, upd_ne npa, upd_ne npa, upd_ne (Ne.symm nqp), upd_ne (Ne.symm nqp), upd_ne npa, upd_same]
        rfl
      · show H4 q = _
        rw [← hH, upd_ne nqa, upd_ne nqa, upd_same]
        rfl
      · exact .cons (.tup (T.vO Fz) (.cons (.int 1) (.cons (.int 1) .nil))) .nil
      · exact .cons .non .nil
    have sm4 : Same Fz H4 := fun b' o e => by
      rw [hHo b' (fun z => by rw [z, fa] at e; cases e) (fun z => by rw [z, sm.free np0] at e; cases e) (fun z => by rw [z, sm.free nq0] at e; cases e)]
      exact sm b' o e
    have hx0 : ObIs x C ss [(b, 1)] [(b, none)] none := ⟨rfl, rfl, rfl, rfl, rfl⟩
    have hp0 : PI ss n b [(b, 1)] [(b, none)] := by
      refine ⟨hg, rfl, by simp, fun y hy => ?_, ⟨rfl, rfl⟩, (fun m k qk e => by cases e), fun m k qk e => ?_⟩
      · rw [List.mem_singleton.mp hy]
        exact hbn
      · cases m with
        | zero => cases e; exact ⟨sm_one (by decide), by decide⟩
        | succ m => cases e
    have st := initO_ok (x := x) (N := ["self", "sightings", "ball", "rim", "here"]) (ds := [.list (ss.map encS), .int (b : Int)]) sm4 (.cons rv (.cons (.int (b : Int)) .nil)) hfx (Ne.symm nqp) ob
    have fin : ∀ {x' : Ob} {l : Wt} {c : Cm} {r : Option (List Pr2)} {c3 c4 : Sl} {σ' : L2.St} {F' H' : Hp}, SameOb x x' → ObIs x' C ss l c r → PartIs ss n b l c r → SSt K (fun _ => False) (hide x H4) Fz F' H' [.o x', .d (.list (ss.map encS)), .d (.int (b : Int)), c3, c4] σ' → Q .non H' := fun {x' l c r c3 c4 σ' F' H'} hsame hx' hpt s' => by
      obtain ⟨e1, hb, hne, ob'⟩ := s'.sl.obj (i := 0) rfl
      have st4 := rw_step s' rfl hsame.has ob
      have nl : ∀ b', b' = a → ¬ IsPool H b' := by
        rintro b' rfl ⟨y1, y2, y3, e⟩
        rw [ha] at e
        cases e
      refine qq x' l c r F' H' hsame.a hx' hpt ⟨st4.ff, st4.fh, fun b' o e hb' => ?_, fun b' hbn f => ?_, fun b' m pl => (nl b' m pl).elim⟩ (fun b h => (hb b h).1) hne (by rw [hsame.dw]; exact np0) (by rw [hsame.dc]; exact nq0) ob'
      · have g2 : b' ≠ p := fun z => by rw [z, np0] at e; cases e
        have g3 : b' ≠ q := fun z => by rw [z, nq0] at e; cases e
        exact st4.hh b' o (by rw [hHo b' hb' g2 g3]; exact e) (fun h => h.elim hb' fun h => h.elim g2 g3)
      · by_cases g1 : b' = a
        · exact (hb b' ((hsame.has b').mpr (.inl g1))).1
        · by_cases g2 : b' = p
          · exact (hb b' ((hsame.has b').mpr (.inr (.inl g2)))).1
          · by_cases g3 : b' = q
            · exact (hb b' ((hsame.has b').mpr (.inr (.inr g3)))).1
            · exact st4.nf b' (by rw [hHo b' g1 g2 g3]; exact hbn) f
    dsimp only
    refine run_S (W := E0) (Φ := fun o => ∃ (x' : Ob) (l : Wt) (c : Cm) (r : Option (List Pr2)) (c3 c4 : Sl), o = .nx [.o x', .d (.list (ss.map encS)), .d (.int (b : Int)), c3, c4] ∧ SameOb x x' ∧ ObIs x' C ss l c r ∧ PartIs ss n b l c r) ?main st (fun o ⟨_, _, _, _, _, _, e, _⟩ => ⟨_, e⟩) (fun ρ' σ' F' H' ⟨x', l, c, r, c3, c4, e, h1, h2, h3⟩ s' => by cases e; exact fin h1 h2 h3 s')
    case main =>
      refine s_seq (s_setL (el_lst (ag_cons (ev_var rfl) ag_nil)) ?_)
      refine s_while (fun m ρ' => ∃ (x' : Ob) (l : Wt) (c : Cm) (r : Option (List Pr2)) (rim : List Nat) (c4 : Sl), ρ' = [.o x', .d (.list (ss.map encS)), .d (.int (b : Int)), .l (rim.map encN), c4] ∧ SameOb x x' ∧ ObIs x' C ss l c r ∧ PI ss n b l c ∧ (∀ k ∈ rim, ∃ qk, (k, qk) ∈ l) ∧
        (r = none → ∀ k qk, (k, qk) ∈ l → k ∉ rim → ∀ y ∈ steps ss k, (y.2.2.1, qk * y.2.2.2) ∈ l) ∧ (∀ rg, r = some rg → IsRing ss rg ∧ rg.length ≤ 50) ∧ rim.length ≤ l.length ∧ m = 2 * (n - l.length) + rim.length) (m0 := 2 * (n - 1) + 1) ⟨x, [(b, 1)], [(b, none)], none, [b], .u, rfl, ⟨rfl, rfl, rfl, rfl⟩, hx0, hp0, fun k hk => ⟨1, by rw [List.mem_singleton.mp hk]; exact List.mem_cons_self⟩, fun _ k qk hk hnk => ?_, (fun rg e => by cases e), Nat.le_refl _, rfl⟩ ?_
      · have : (k, qk) = (b, 1) := List.mem_singleton.mp hk
        cases this
        exact absurd List.mem_cons_self hnk
      · rintro m ρ' ⟨x', l, c, r, rim, c4, rfl, hsame, hx', hp, hrim, hcl, hrg, hrl, rfl⟩
        have hxC' : PCls K x'.C := by rw [hsame.C]; exact PC
        have hlen := hp.len
        have hl1 : 0 < l.length := (List.getElem?_eq_some_iff.mp hp.root.1).1
        refine ⟨_, te_and (te_test (ev_neO rfl (EL.ev (el_lst ag_nil)) (shaped_list fun d hd => by
          obtain ⟨y, _, rfl⟩ := List.mem_map.mp hd
          exact encN_flat y) rfl)) fun _ => te_test (ev_op (ev_fR rfl hxC') ev_non od_isN), fun h => ?_, fun h => ?_⟩
        · rw [Bool.and_eq_true] at h
          have hr0 : r = none := by
            have := h.2
            rw [hx'.rg] at this
            cases r with
            | none => rfl
            | some rg => cases this
          subst hr0
          cases rim with
          | nil => have := h.1; cases this
          | cons y rim =>
            obtain ⟨qy, hqy⟩ := hrim y List.mem_cons_self
            refine s_seq (s_pop0 (j := 4) (y := encN y) (ys := rim.map encN) rfl ?_)
            have hml : rim.length + 1 ≤ l.length := hrl
            refine s_extJoin (i := 0) (j := 3) (h := 4) (xs := rim.map encN) (b := y) rfl rfl rfl (by decide) (hsame.C.trans rfl) hx' hp hn hss hqy (by rw [List.length_map]; omega) fun x2 l' c' r' hs2 hx2 hj => ?_
            have hpl := hj.pi.len
            rw [List.length_append] at hpl
            refine ⟨2 * (n - (l ++ l').length) + (rim ++ l'.map (·.1)).length, by simp only [List.length_append, List.length_map, List.length_cons]; omega, x2, l ++ l', c ++ c', r', rim ++ l'.map (·.1), .d (encN y), ?_, ⟨hs2.C.trans hsame.C, hs2.a.trans hsame.a, hs2.dw.trans hsame.dw, hs2.dc.trans hsame.dc⟩, hx2, hj.pi, fun k hk => ?_, fun hr k qk hk hnk z hz => ?_, hj.rg, by simp only [List.length_append, List.length_map]; omega, rfl⟩
            · rw [List.map_append]
              rfl
            · rcases List.mem_append.mp hk with hk | hk
              · obtain ⟨qk, h1⟩ := hrim k (List.mem_cons_of_mem _ hk)
                exact ⟨qk, List.mem_append_left _ h1⟩
              · obtain ⟨z, hz, rfl⟩ := List.mem_map.mp hk
                exact ⟨z.2, List.mem_append_right _ hz⟩
            · by_cases hky : k = y
              · subst hky
                obtain ⟨j, hj1, hj2⟩ := steps_all hz
                obtain ⟨qo, g1, g2⟩ := hj.cl j z hj1 hj2
                have := has_unique hj.pi.nd hk (List.mem_append_left _ hqy)
                rw [this, ← g2 hr]
                exact g1
              · rcases List.mem_append.mp hk with hk | hk
                · exact List.mem_append_left _ (hcl rfl k qk hk (fun hm => by
                    rcases List.mem_cons.mp hm with e | e
                    · exact hky e
                    · exact hnk (List.mem_append_left _ e)) z hz)
                · exact absurd (List.mem_append_right _ (List.mem_map.mpr ⟨_, hk, rfl⟩)) hnk
        · refine ⟨x', l, c, r, .l (rim.map encN), c4, rfl, hsame, hx', hp, fun hr k qk hk z hz => ?_, hrg⟩
          have hr2 : rim = [] := by
            rw [hx'.rg, hr] at h
            have e2 : isNone (encRg none) = true := rfl
            rw [e2, Bool.and_true] at h
            cases rim with
            | nil => rfl
            | cons y rim => cases h
          exact hcl hr k qk hk (by rw [hr2]; exact fun z => by cases z) z hz
end
end K57
/-! F20: weights_of -/
namespace PD
open PySem PySem.Spec PyProof.Rows L2
/-- a def over plain data: for ds it gives some datum in Pd -/
def spN (K : PySem.W.Frag) (R : List PyData → (PyData → Prop) → Prop) : Sp := fun vs H Q _ => ∃ (F : Hp) (ds : List PyData) (Pd : PyData → Prop), Same F H ∧ RpA K F vs ds ∧ R ds Pd ∧ ∀ d v F' H', Pd d → Step (fun _ => False) F H F' H' → Rp K F' v d → Q v H'
section
variable {K : PySem.W.Frag} {M : Addr → Prop} {W : XK} {ρ : List Sl} {tA : TA} {P : PyData → Prop}
theorem evN_N {R : List PyData → (PyData → Prop) → Prop} {PA : List PyData → Prop} (ha : AN K M tA ρ PA) (ho : ∀ ds, PA ds → ∃ Pd, R ds Pd ∧ ∀ d, Pd d → P d) : EvN K M (tCall (spN K R) [] W tA) ρ P := fun F H σ s o Q q =>
  ha F H σ s o _ fun ds vs F1 H1 p st r => by
    obtain ⟨Pd, hR, hP⟩ := ho ds p
    exact ⟨F1, ds, Pd, st.fh, by rw [List.append_nil]; exact r, hR, fun d v F' H' pd st' rv => q d v F' H' (hP d pd) (st.trans o.mp st'.weak) rv⟩
theorem made_range (f : Nat → PyData) : ∀ k, made [] (fun _ => true) f k = (List.range k).map f
  | 0 => rfl
  | k + 1 => by
    unfold made
    rw [if_pos rfl, made_range f k, List.range_succ, List.map_append]
    rfl
end
section
variable {P : Program} {w : World} {K : PySem.W.Frag} {mg : Str → Option Value} {base : Heap}
theorem ok_defN {CX : CXT} {x qual : Str} {params : Arguments} {body : List Stmt} {scope : Scope} {dvs : List V} {kws : List (Str × V)} {f : Addr} {fd : FuncData} {N ps : List Str} {k : Nat} {R : List PyData → (PyData → Prop) → Prop}
    (F : FunD K x qual params body scope dvs kws f fd) (Sc : FnScope N ps scope) (hl : ∀ ds Pd, R ds Pd → ds.length = ps.length)
    (h : ∀ (cdv : Value) (A : Around) (outer : List Env) (s : Shared) (H : Hp) (W : XK), Room k (A.deeper (envOfC qual scope s.heap.objs.size f cdv)) →
      ∃ t, PSs (cxOf CX P w K mg base N qual scope f cdv A outer s H W) body t ∧ ∀ ds Pd, R ds Pd → S K (fun _ => False) W t (initS N ds) (fun o => ∃ d, o = .rt d ∧ Pd d)) :
    FnOk P w K mg base CX (k + 1) f fd ps (spN K R) := by
  refine ok_defG F Sc (fun vs H Q W hs => ?_) (fun cdv A outer s H W hr => ?_)
  · obtain ⟨Fz, ds, Pd, _, r, hR, _⟩ := hs
    rw [r.length]
    exact hl ds Pd hR
  · obtain ⟨t, ht, hS⟩ := h cdv A outer s H W hr
    refine ⟨t, ht, fun vs Q hs => ?_⟩
    obtain ⟨Fz, ds, Pd, sm, r, hR, q⟩ := hs
    exact ⟨_, Fz, _, Pd, init_ok sm r, hS ds Pd hR, fun d v F' H' pd st rv => q d v F' H' pd st rv⟩
end
end PD
namespace K57
open PySem PySem.Spec PyProof.Rows L2 PD M
section
variable {K : PySem.W.Frag} {C : Addr}
/-- i = Part(sightings, b) -/
theorem s_mkPart {W W' : XK} {ρ : List Sl} {i b n : Nat} {ss : List Sg} {tA : TA} {Φ : Out → Prop} (ha : Ag K (fun _ => False) tA ρ [.list (ss.map encS), .int (b : Int)]) (hg : ∀ s ∈ ss, Good n s) (hb : b < n) (hn : n ≤ 10) (hss : ss.length ≤ 100)
    (q : ∀ x l c r, ObIs x C ss l c r → PartIs ss n b l c r → Φ (.nx (ρ.set i (.o x)))) : S K (fun _ => False) W (tAsg (tMake C (spPart K C) [] W' tA) (gName i)) ρ Φ := fun H0 F0 F H σ D s k1 _ _ _ _ =>
  ha F H σ s.st.fh s.sl _ fun ds vs F1 H1 e st r => by
    subst e
    obtain ⟨v, vb, rfl, rv, rb⟩ := r.two
    have s1 := s.step st
    intro a dx na nd hne
    have fa : F1 a = none := st.fh.free na
    have h2 : ∀ b', b' ≠ a → b' ≠ dx → upd (upd H1 dx (.own a)) a (.ins C dx []) b' = H1 b' := fun b' g1 g2 => by rw [upd_ne g1, upd_ne g2]
    have smx : Same F1 (upd (upd H1 dx (.own a)) a (.ins C dx [])) := fun b' o e => by
      rw [h2 b' (fun z => by rw [z, fa] at e; cases e) (fun z => by rw [z, st.fh.free nd] at e; cases e)]
      exact st.fh b' o e
    refine ⟨F1, a, dx, v, ss, n, b, by rw [rb.int_]; rfl, smx, fa, upd_same, rv, hg, hb, hn, hss, fun x l c r F' H' hxa hob hpt stp hf hdd hdw hdc ob => ⟨rfl, ?_⟩⟩
    have hnone : ∀ b', x.has b' → H1 b' = none := by
      have g : ∀ b', upd (upd H1 dx (.own a)) a (.ins C dx []) b' = none → H1 b' = none := fun b' e => by
        by_cases g1 : b' = a
        · rw [g1, upd_same] at e; cases e
        · by_cases g2 : b' = dx
          · rw [g2, upd_ne hne, upd_same] at e; cases e
          · rw [h2 b' g1 g2] at e; exact e
      rintro b' (rfl | rfl | rfl)
      · rw [hxa]; exact na
      · exact g _ hdw
      · exact g _ hdc
    have st1 : Step (fun _ => False) F1 H1 F' H' := ⟨stp.ff, stp.fh, fun b' o e _ => by
      have g1 : b' ≠ a := fun z => by rw [z, na] at e; cases e
      have g2 : b' ≠ dx := fun z => by rw [z, nd] at e; cases e
      exact stp.hh b' o (by rw [h2 b' g1 g2]; exact e) g1, fun b' hbn f => by
      by_cases g1 : b' = a
      · exact absurd na (g1 ▸ hbn)
      · by_cases g2 : b' = dx
        · exact absurd nd (g2 ▸ hbn)
        · exact stp.nf b' (by rw [h2 b' g1 g2]; exact hbn) f, fun _ m => m.elim⟩
    refine k1 _ _ F' H' (q x l c r hob hpt) ((s1.step st1).setG i (s := .o x) (w := some (.ref a)) ⟨by rw [hxa], fun b' h => ⟨hf b' h, id⟩, hdd, ob⟩ (fun b' h => ?_) fun j t u b' n e1 e2 o1 o2 => ?_)
    · have := hnone b' h
      cases e : H0 b' with
      | none => rfl
      | some o => exact absurd this (by rw [s1.st.hh b' o e id]; exact fun z => nomatch z)
    · exact ((s1.sl.ok j t u e1 e2).owned o1).2.2 (hnone b' o2)
/-- found.update(part.whole()) -/
theorem s_updWhole {W W' : XK} {ρ : List Sl} {i j : Nat} {x : Ob} {ds : List (Nat × PyData)} {ss : List Sg} {l : Wt} {c : Cm} {r : Option (List Pr2)} {Φ : Out → Prop} (ei : ρ[i]? = some (.o x)) (ej : ρ[j]? = some (.m ds)) (hx : ObIs x C ss l c r) (hw : SmW l) (h0 : l ≠ []) (hl : ds.length ≤ 900)
    (q : ∀ gs, (∀ y ∈ gs, y ∈ ds ∨ y ∈ wholeD l) → (∀ k, (find ds k).isSome = true ∨ (find (wholeD l) k).isSome = true → (find gs k).isSome = true) → gs.length ≤ ds.length + (wholeD l).length → Φ (.nx (ρ.set j (.m gs)))) :
    S K (fun _ => False) W (tDrop (tBM K "dict" rUpdate (tVar j) (tCons (tMeth C "whole" (spWhole K C) [] W' (tVar i) tNil) tNil))) ρ Φ := fun H0 F0 F H σ D s k1 _ _ _ _ => by
  obtain ⟨d, kvs, ej2, fd, md, hd, rd⟩ := s.sl.dic ej
  obtain ⟨ei2, hbs, hne, ob⟩ := s.sl.obj ei
  refine ⟨.ref d, ej2, .inr (.inr (.inl ⟨rfl, .inl ⟨kvs, hd⟩⟩)), .ref x.a, ei2, x.a, x.dx, _, rfl, by rw [← hx.C]; exact ob.1, rfl, F, x, ss, l, c, r, rfl, hx.C, s.st.fh, fun b h => (hbs b h).1, hne, ob, hx, hw, h0, fun a kvs' F' H' st fa ha ha' ra => ?_⟩
  have s1 := s.step st
  have hd' := st.hh d _ hd id
  have hda : d ≠ a := fun e => by rw [e, ha] at hd; cases hd
  have fd' := st.nf d (by rw [hd]; exact fun z => nomatch z) fd
  have hwl : (wholeD l).length = l.length := by simp [wholeD]
  have hll := hw.len
  obtain ⟨gs, g1, g2, g3, g4⟩ := RpD.merge ra (rd.up st.ff)
  refine ⟨d, a, kvs, kvs', rfl, rfl, hda, hd', ha', Nat.le_of_lt (small (by rw [rd.len, ra.len]; omega)), k1 _ _ F' _ (q gs g2 g3 g4) (s1.mut ej ej2 (.updO s1.st.fh rfl fd' ?_) ⟨d, _, rfl, fd', id, upd_same, g1⟩ fun b h => h)⟩
  intro b hb
  cases (show some (V.ref d) = some (V.ref b) from hb)
  rintro ⟨y1, y2, y3, e⟩
  rw [hd'] at e
  cases e
end
theorem PartIs.smw {ss : List Sg} {n b : Nat} {l : Wt} {c : Cm} {r : Option (List Pr2)} (h : PartIs ss n b l c r) (hn : n ≤ 10) : SmW l ∧ l ≠ [] := by
  have hl := h.pi.len
  refine ⟨⟨by omega, fun y hy => ?_, h.pi.nd⟩, fun e => ?_⟩
  · obtain ⟨m, e⟩ := List.getElem?_of_mem hy
    have hm := (List.getElem?_eq_some_iff.mp e).1
    obtain ⟨h1, h2⟩ := h.pi.sm m y.1 y.2 e
    exact ⟨h1.mono (by omega), h2⟩
  · have := h.pi.root.1
    rw [e] at this
    cases this
def R_weights_of : List PyData → (PyData → Prop) → Prop := fun ds Pd => ∃ (n : Nat) (ss : List Sg) (VP : Nat → PyData → Prop), ds = [.int (n : Int), .list (ss.map encS)] ∧ n ≤ 10 ∧ ss.length ≤ 100 ∧ (∀ s ∈ ss, Good n s) ∧ (∀ b l c, b < n → PartIs ss n b l c none → ∀ y ∈ wholeD l, VP y.1 y.2) ∧
  Pd = fun d => (∃ b l c rg, b < n ∧ PartIs ss n b l c (some rg) ∧ d = .tuple [.str "ring", .list (rg.map encP)]) ∨ (∃ vals : Nat → PyData, (∀ k, k < n → VP k (vals k)) ∧ d = .tuple [.str "weights", .tuple ((List.range n).map vals)])
section
variable {P : Program} {w : World} {K : PySem.W.Frag} {mg : Str → Option Value} {base : Heap}
theorem sc_weights_of : FnScope ["n", "sightings", "found", "ball", "at", "sighting", "part"] ["n", "sightings"] (defScope (top 25)) := ⟨rfl, rfl, rfl, by decide +kernel, rfl, by decide +kernel, by decide +kernel⟩
theorem ok_weights_of {f aN aO : Addr} {fd : FuncData} (T : Txt K mg aN aO) {C : Addr} (PC : PCls K C)  (C_share_of : Cal P w K mg base CX0 5 "share_of" ["sighting"] [] (spF K R_share_of)) (MK_Part : MkC P w K mg base CX0 8 C ["self", "sightings", "ball"] (spPart K C)) (MC_whole : MCal P w K mg base CX0 2 C "whole" ["self"] (spWhole K C)) (F : FunD K "weights_of" "weights_of" (defArgs (top 25)) (defBody (top 25)) (defScope (top 25)) [] [] f fd) : FnOk P w K mg base CX0 10 f fd ["n", "sightings"] (spN K R_weights_of) := by
  refine ok_defN F sc_weights_of (fun ds Pd h => ?_) (fun cdv A outer s H W hr => ⟨_, (pss_cons (ps_for (passes_of rfl) rfl (pi_enum (by rfl) T.f_enumerate (pa_cons (pv 1) pa_nil)) (pg_tup rfl (pgs_cons (pg_name (i := 4) sc_weights_of.nd rfl (Or.inl rfl)) (pgs_cons (pg_name (i := 5) sc_weights_of.nd rfl (Or.inl rfl)) pgs_nil))) (pss_one (ps_if (pt_cmpR op_isN (pe_cal C_share_of (hr.mono (by decide)) pass0 (pa_cons (pv 5) pa_nil)) pe_non (nomark _)) (pss_one (ps_ret (pe_tup (pa_cons pe_str (pa_cons (pv 4) pa_nil))))) pss_nil)))
      (pss_cons (ps_set (i := 2) sc_weights_of.nd rfl (Or.inr rfl) pe_dnewK)
      (pss_cons (ps_for (passes_of rfl) rfl (pi_range1 (by rfl) T.f_range (pa_cons (pv 0) pa_nil)) (pg_name (i := 3) sc_weights_of.nd rfl (Or.inl rfl)) (pss_one (ps_if (pt_cmp (pc_dnotin (hu_of hr) (pv 3) (pv 2)) (by rfl)) (pss_cons (ps_set (i := 6) sc_weights_of.nd rfl (Or.inl rfl) (pe_mk MK_Part (hr.mono (by decide)) pass0 (pa_cons (pv 1) (pa_cons (pv 3) pa_nil))))
      (pss_cons (ps_if (pt_cmpR op_notN (pe_fld (pv 6) rfl) pe_non (nomark _)) (pss_one (ps_ret (pe_tup (pa_cons pe_str (pa_cons (pe_fld (pv 6) rfl) pa_nil))))) pss_nil)
      (pss_one (ps_expr (pe_bm PySem.F.plainAttrs_dict PySem.F.slot_dict_update PySem.F.type_dict_update mt_update (pv 2) (pa_cons (pe_mcal0 MC_whole PC.c (hr.mono (by decide)) pass0 (pv 6)) pa_nil)))))) pss_nil)))
      (pss_one (ps_ret (pe_tup (pa_cons pe_str (pa_cons (pe_callTy call_tuple_of (by rfl) T.f_tuple (by decide +kernel) (pa_cons (pe_lc (own := [("ball", 3)]) rfl sc_weights_of.nd (pi_range1 (by rfl) T.f_range (pa_cons (pv 0) pa_nil)) (blkOk_by (N := ["n", "sightings", "found", "ball", "at", "sighting", "part"]) (sc := defScope (top 25)) (by decide +kernel)) (fun _ _ _ _ _ => (pg_name (i := 3) sc_weights_of.nd rfl (Or.inl rfl))) (fun _ _ _ _ _ => pts_nil) (fun _ _ _ _ _ => (pe_dget (hu_of hr) (pv 2) (pv 3) (fun _ _ => rfl)))) pa_nil)) pa_nil)))))))), fun ds Pd h => ?_⟩)
  · obtain ⟨n, ss, VP, rfl, _⟩ := h
    rfl
  · obtain ⟨n, ss, VP, rfl, hn, hss, hg, hv, rfl⟩ := h
    refine s_seq (s_forE (xs := ss.map encS) (fun k ρ' => ∃ c4 c5 : Sl, ρ' = [.d (.int (n : Int)), .d (.list (ss.map encS)), .u, .u, c4, c5, .u]) (ag_cons (ev_var rfl) ag_nil) ⟨_, _, rfl⟩ ?_ ?_)
    · rintro k z ρ' hz ⟨c4, c5, rfl⟩
      obtain ⟨s, es, rfl⟩ := map_get hz
      have hs := hg s (List.mem_of_getElem? es)
      refine ⟨_, tg_tup rfl (tgA_cons tg_name (tgA_cons tg_name tgA_nil)), ?_⟩
      refine s_ifF (te_test (ev_op (ev_fn (d := encO (shareOf s)) (ag_cons (ev_var rfl) ag_nil) ⟨s, rfl, hs.ok, rfl⟩) ev_non (by rw [hs.share]; exact od_isN (a := encO (some s.sh))))) (s_next ⟨.d (.int (k : Int)), .d (encS s), rfl⟩)
    rintro ρ1 ⟨c4, c5, rfl⟩
    refine s_seq (s_newM ?_)
    refine s_seq (s_forR (n := n) (J := fun k ρ' => ∃ (ds : List (Nat × PyData)) (c3 c4 c5 c6 : Sl), ρ' = [.d (.int (n : Int)), .d (.list (ss.map encS)), .m ds, c3, c4, c5, c6] ∧ (∀ y ∈ ds, VP y.1 y.2) ∧ (∀ j, j < k → (find ds j).isSome = true) ∧ ds.length ≤ 10 * k) (ag_cons (ev_var rfl) ag_nil) (by omega) ⟨[], _, _, _, _, rfl, (fun y hy => by cases hy), (fun j hj => by omega), Nat.le_refl _⟩ ?_ ?_)
    · rintro k ρ' hk ⟨ds, c3, c4, c5, c6, rfl, h1, h2, h3⟩
      refine ⟨_, tg_name, ?_⟩
      refine s_if (te_val (ev_ninM rfl (ev_var rfl))) (fun hnw => ?_) fun hin => s_next ?_
      · refine s_seq (s_mkPart (n := n) (b := k) (ag_cons (ev_var rfl) (ag_cons (ev_var rfl) ag_nil)) hg hk hn hss fun x l c r hx hp => ?_)
        have hxC : PCls K x.C := by rw [hx.C]; exact PC
        refine s_seq (s_if (te_test (ev_op (ev_fR rfl hxC) ev_non od_notN)) (fun hr => ?_) fun hr => s_next ?_)
        · obtain ⟨rg, rfl⟩ : ∃ rg, r = some rg := by
            cases r with
            | none => rw [hx.rg] at hr; cases hr
            | some rg => exact ⟨rg, rfl⟩
          refine s_ret (ev_tup (ag_cons ev_str (ag_cons (ev_fR rfl hxC) ag_nil))) ⟨_, rfl, .inl ⟨k, l, c, rg, hk, hp, by rw [hx.rg]; rfl⟩⟩
        · have hr0 : r = none := by
            cases r with
            | none => rfl
            | some rg => rw [hx.rg] at hr; cases hr
          subst hr0
          obtain ⟨hw, hl0⟩ := hp.smw hn
          have hwl : (wholeD l).length = l.length := by simp [wholeD]
          have hll := hw.len
          refine s_updWhole (i := 6) (j := 2) rfl rfl hx hw hl0 (by omega) fun gs g1 g2 g3 => ⟨gs, .d (.int (k : Int)), c4, c5, .o x, rfl, fun y hy => ?_, fun j hj => g2 j ?_, by omega⟩
          · rcases g1 y hy with e | e
            · exact h1 y e
            · exact hv k l c hk hp y e
          · by_cases hjk : j < k
            · exact .inl (h2 j hjk)
            · right
              have : j = k := by omega
              subst this
              have e : (j, (1 : Rat)) ∈ l := List.mem_of_getElem? hp.pi.root.1
              rw [find_isSome]
              exact ⟨_, List.mem_map.mpr ⟨_, e, rfl⟩, rfl⟩
      · refine ⟨ds, .d (.int (k : Int)), c4, c5, c6, rfl, h1, fun j hj => ?_, by omega⟩
        by_cases hjk : j < k
        · exact h2 j hjk
        · have : j = k := by omega
          subst this
          cases e : find ds j with
          | none => rw [e] at hin; cases hin
          | some d => rfl
    · rintro ρ' ⟨ds, c3, c4, c5, c6, rfl, h1, h2, h3⟩
      have hval : ∀ k, k < n → ∃ d, find ds k = some d ∧ VP k d := fun k hk => by
        have := h2 k hk
        cases e : find ds k with
        | none => rw [e] at this; cases this
        | some d =>
          refine ⟨d, rfl, ?_⟩
          unfold find at e
          obtain ⟨y, hy, rfl⟩ := Option.map_eq_some_iff.mp e
          have hm := List.mem_of_find?_eq_some hy
          have hk2 := List.find?_some hy
          have hk2 : y.1 = k := by simpa using hk2
          rw [← hk2]
          exact h1 y hm
      have el := el_lcR (K := K) (M := fun _ => False) (ρ := [.d (.int (n : Int)), .d (.list (ss.map encS)), .m ds, c3, c4, c5, c6]) (vs := [3]) (g := gName 3) (tt := tYes) (tel := tDGet (tVar 2) (tVar 3)) (tA := tCons (tVar 0) tNil) (n := n) (fun _ => true) (fun k => (find ds k).getD .none) (ag_cons (ev_var rfl) ag_nil) (by omega) fun k hk => by
        obtain ⟨d, e, _⟩ := hval k hk
        refine item_map (te_name (by decide)) (ev_getM (i := 2) rfl (ev_var rfl) ?_)
        rw [e]
        rfl
      rw [made_range] at el
      refine s_ret (ev_tup (ag_cons ev_str (ag_cons (ev_cb (ag_cons (EL.ev el) ag_nil) cb_tupleL) ag_nil))) ⟨_, rfl, .inr ⟨fun k => (find ds k).getD .none, fun k hk => ?_, rfl⟩⟩
      obtain ⟨d, e, hd⟩ := hval k hk
      show VP k ((find ds k).getD .none)
      rw [e]
      exact hd
end
end K57
/-! D8: meetings of weights -/
namespace K57
open PySem PySem.Spec PyProof.Rows L2 PD M
/-- the sighting tells a meeting of two of the weights -/
structure MeetOf (ws : List Nat) (s : Sg) : Prop where
  ex : ∃ a b : Nat, ws[s.i]? = some a ∧ ws[s.j]? = some b ∧ 0 < a ∧ a ≤ 1001 ∧ 0 < b ∧ b ≤ 1001 ∧ s.v ≠ s.w ∧ Sm 700 s.v ∧ Sm 700 s.w ∧
    s.v2 = s.v - (2 * (b : Rat)) * (s.v - s.w) / ((a : Rat) + (b : Rat)) ∧ s.w2 = s.w + (2 * (a : Rat)) * (s.v - s.w) / ((a : Rat) + (b : Rat))
def swS (s : Sg) : Sg := ⟨s.j, s.i, s.w, s.v, s.w2, s.v2⟩
theorem cast_nat (n : Nat) : (((n : Nat) : Int) : Rat) = (n : Rat) := Rat.intCast_natCast n
theorem natr_pos {a : Nat} (h : 0 < a) : (0 : Rat) < (a : Rat) := by exact_mod_cast h
theorem natr_sm {a : Nat} (h : a < 2 ^ 12) : Sm 12 (a : Rat) := by
  rw [← cast_nat]
  exact Sm.int (by omega) (by decide)
structure MFacts (ws : List Nat) (s : Sg) (a b : Nat) : Prop where
  hi : ws[s.i]? = some a
  hj : ws[s.j]? = some b
  a0 : 0 < a
  a1 : a ≤ 1001
  b0 : 0 < b
  b1 : b ≤ 1001
  ok : OkSg s
  reb : s.reb = true
  g0 : s.gained ≠ 0
  sh : s.sh = (b : Rat) / (a : Rat)
  lg : (a : Rat) * s.lost = (b : Rat) * s.gained
theorem ratio_sm {a b : Nat} (a0 : 0 < a) (a1 : a ≤ 1001) (b1 : b ≤ 1001) : Sm 11 ((b : Rat) / (a : Rat)) := by
  have e : (b : Rat) / (a : Rat) = Rat.divInt (b : Int) (a : Int) := by
    rw [Rat.divInt_eq_div, cast_nat, cast_nat]
  rw [e]
  exact divInt_small (by omega) (by omega) (by omega)
theorem MeetOf.facts {ws : List Nat} {s : Sg} (h : MeetOf ws s) : ∃ a b, MFacts ws s a b := by
  obtain ⟨a, b, hi, hj, a0, a1, b0, b1, hne, sv, sw, ev, ew⟩ := h.ex
  have pa := natr_pos a0
  have pb := natr_pos b0
  have sd : Sm 1401 (s.v - s.w) := sv.sub sw
  have ss : Sm 25 ((a : Rat) + (b : Rat)) := (natr_sm (show a < 2 ^ 12 by omega)).add (natr_sm (show b < 2 ^ 12 by omega))
  have pab : (a : Rat) + (b : Rat) ≠ 0 := by grind
  have two : Sm 2 (2 : Rat) := ⟨by decide, by decide⟩
  have s1 : Sm 1440 ((2 * (b : Rat)) * (s.v - s.w) / ((a : Rat) + (b : Rat))) := (((two.mul (natr_sm (show b < 2 ^ 12 by omega))).mul sd).div ss pab).mono (by decide)
  have s2 : Sm 1440 ((2 * (a : Rat)) * (s.v - s.w) / ((a : Rat) + (b : Rat))) := (((two.mul (natr_sm (show a < 2 ^ 12 by omega))).mul sd).div ss pab).mono (by decide)
  have el : s.lost = (2 * (b : Rat)) * (s.v - s.w) / ((a : Rat) + (b : Rat)) := by
    unfold Sg.lost
    rw [ev]
    grind
  have eg : s.gained = (2 * (a : Rat)) * (s.v - s.w) / ((a : Rat) + (b : Rat)) := by
    unfold Sg.gained
    rw [ew]
    grind
  have hd : s.v - s.w ≠ 0 := by grind
  have hg : s.gained ≠ 0 := by
    rw [eg]
    grind
  have esh : s.sh = (b : Rat) / (a : Rat) := by
    unfold Sg.sh
    rw [el, eg]
    grind
  refine ⟨a, b, hi, hj, a0, a1, b0, b1, ⟨sv.mono (by decide), sw.mono (by decide), ?_, ?_, ?_, ?_, ?_⟩, ?_, hg, esh, ?_⟩
  · rw [ev]
    exact (sv.sub s1).mono (by decide)
  · rw [ew]
    exact (sw.add s2).mono (by decide)
  · rw [el]
    exact s1.mono (by decide)
  · rw [eg]
    exact s2.mono (by decide)
  · rw [esh]
    exact (ratio_sm a0 a1 b1).mono (by decide)
  · unfold Sg.reb
    rw [decide_eq_false hne, decide_eq_true]
    · rfl
    · rw [ev, ew]
      grind
  · rw [el, eg]
    grind
theorem MeetOf.good {ws : List Nat} {s : Sg} {n : Nat} (h : MeetOf ws s) (hn : ws.length = n) : Good n s := by
  obtain ⟨a, b, f⟩ := h.facts
  have pa := natr_pos f.a0
  have pb := natr_pos f.b0
  refine ⟨f.ok, f.reb, f.g0, ?_, ?_, ?_, ?_⟩
  · rw [f.sh, Rat.lt_div_iff pa, Rat.zero_mul]
    exact pb
  · rw [f.sh]
    exact ratio_sm f.a0 f.a1 f.b1
  · rw [← hn]
    exact (List.getElem?_eq_some_iff.mp f.hi).1
  · rw [← hn]
    exact (List.getElem?_eq_some_iff.mp f.hj).1
theorem MeetOf.done {ws : List Nat} {s : Sg} (h : MeetOf ws s) : DoneBy (ws.map fun x : Nat => ((x : Nat) : Int)) s := by
  obtain ⟨a, b, f⟩ := h.facts
  have l1 := f.a1
  have l2 := f.b1
  refine ⟨f.ok, f.reb, a, b, by rw [List.getElem?_map, f.hi]; rfl, by rw [List.getElem?_map, f.hj]; rfl, by omega, by omega, ?_⟩
  have := f.lg
  rw [cast_nat, cast_nat]
  exact this
theorem MeetOf.sw {ws : List Nat} {s : Sg} (h : MeetOf ws s) : MeetOf ws (swS s) := by
  obtain ⟨a, b, hi, hj, a0, a1, b0, b1, hne, sv, sw, ev, ew⟩ := h.ex
  refine ⟨b, a, hj, hi, b0, b1, a0, a1, fun e => hne e.symm, sw, sv, ?_, ?_⟩
  · show s.w2 = s.w - (2 * (a : Rat)) * (s.w - s.v) / ((b : Rat) + (a : Rat))
    rw [ew]
    have := natr_pos a0
    have := natr_pos b0
    grind
  · show s.v2 = s.v + (2 * (b : Rat)) * (s.w - s.v) / ((b : Rat) + (a : Rat))
    rw [ev]
    have := natr_pos a0
    have := natr_pos b0
    grind
theorem meeting_meet {ws : List Nat} {i j m n : Nat} {v w : Rat} (hi : ws[i]? = some m) (hj : ws[j]? = some n) (m0 : 0 < m) (m1 : m ≤ 1001) (n0 : 0 < n) (n1 : n ≤ 1001) (hne : v ≠ w) (sv : Sm 700 v) (sw : Sm 700 w) : MeetOf ws (meeting i j m n v w) := by
  have e1 : Rat.divInt (2 * (n : Int)) ((m : Int) + (n : Int)) = 2 * (n : Rat) / ((m : Rat) + (n : Rat)) := by
    rw [Rat.divInt_eq_div]
    simp [cast_nat]
  have e2 : Rat.divInt (2 * (m : Int)) ((m : Int) + (n : Int)) = 2 * (m : Rat) / ((m : Rat) + (n : Rat)) := by
    rw [Rat.divInt_eq_div]
    simp [cast_nat]
  have := natr_pos m0
  have := natr_pos n0
  refine ⟨m, n, hi, hj, m0, m1, n0, n1, hne, sv, sw, ?_, ?_⟩
  · show v - (v - w) * Rat.divInt (2 * (n : Int)) ((m : Int) + (n : Int)) = _
    rw [e1]
    show v - (v - w) * (2 * (n : Rat) / ((m : Rat) + (n : Rat))) = v - 2 * (n : Rat) * (v - w) / ((m : Rat) + (n : Rat))
    grind
  · show w + (v - w) * Rat.divInt (2 * (m : Int)) ((m : Int) + (n : Int)) = _
    rw [e2]
    show w + (v - w) * (2 * (m : Rat) / ((m : Rat) + (n : Rat))) = w + 2 * (m : Rat) * (v - w) / ((m : Rat) + (n : Rat))
    grind
end K57
/-! D9: what the mathematics must give (statements) -/
namespace K57
open PySem PySem.Spec PyProof.Rows L2 PD M
/-- the same pairs of balls -/
structure SameEdges (ss ts : List Sg) : Prop where
  a : ∀ s ∈ ss, ∃ t ∈ ts, (s.i = t.i ∧ s.j = t.j) ∨ (s.i = t.j ∧ s.j = t.i)
  b : ∀ t ∈ ts, ∃ s ∈ ss, (s.i = t.i ∧ s.j = t.j) ∨ (s.i = t.j ∧ s.j = t.i)
structure RowMath (row : List Ball) (ws : Ws) : Prop where
  ok8 : WatchOk 8 row ws
  ok1 : WatchOk 1 row ws
  meets : ∀ s ∈ watch 8 row ws [], MeetOf (row.map Ball.w) s
  nx : ∀ s ∈ watch 8 row ws [], s.j = s.i + 1
  len : (watch 8 row ws []).length ≤ 40
  sub : ∀ s ∈ watch 1 row ws [], s ∈ watch 8 row ws []
  one : (watch 1 row ws []).length ≤ 10
end K57
/-! G1: parts, rings, least weights -/
namespace K57
open PySem PySem.Spec PyProof.Rows L2 PD M
/-! ### steps -/
theorem steps_of {ss : List Sg} {s : Sg} (h : s ∈ ss) : ∃ m, (m, 0, s.j, s.sh) ∈ steps ss s.i ∧ (m, 1, s.i, 1 / s.sh) ∈ steps ss s.j := by
  obtain ⟨m, e⟩ := List.getElem?_of_mem h
  have hm := (List.getElem?_eq_some_iff.mp e).1
  refine ⟨m, mem_stepsUp e ?_ hm, mem_stepsUp e ?_ hm⟩
  · unfold stepAt
    rw [if_pos rfl]
    exact List.mem_append_left _ List.mem_cons_self
  · unfold stepAt
    rw [if_pos rfl]
    exact List.mem_append_right _ List.mem_cons_self
theorem whole_key {l : Wt} {y : Nat × PyData} (h : y ∈ wholeD l) : ∃ q, (y.1, q) ∈ l ∧ y.2 = .int ((zOf (bot l) q).fdiv (byOf l : Nat)) := by
  obtain ⟨z, hz, rfl⟩ := List.mem_map.mp h
  exact ⟨z.2, hz, rfl⟩
theorem odd_part {ss : List Sg} {n b : Nat} {l : Wt} {c : Cm} {s t : Sg} (hs : s ∈ ss) (ht : t ∈ ss) (ei : s.i = t.i) (ej : s.j = t.j) (hne : s.sh ≠ t.sh) (hp : PartIs ss n b l c none) : ∀ y ∈ wholeD l, y.1 ≠ s.i := fun y hy e => by
  obtain ⟨q, hq, _⟩ := whole_key hy
  rw [e] at hq
  obtain ⟨m1, h1, _⟩ := steps_of hs
  obtain ⟨m2, h2, _⟩ := steps_of ht
  rw [← ei] at h2
  have g1 := hp.cl rfl _ _ hq _ h1
  have g2 := hp.cl rfl _ _ hq _ h2
  have g2 : (s.j, q * t.sh) ∈ l := by rw [ej]; exact g2
  have g3 := has_unique hp.pi.nd g1 g2
  obtain ⟨mm, hm⟩ := List.getElem?_of_mem hq
  have q0 : q ≠ 0 := pos_ne (hp.pi.sm mm _ _ hm).2
  have g3 : q * s.sh = q * t.sh := g3
  apply hne
  grind
/-! ### weights and steps -/
def wR (ws : List Nat) (k : Nat) : Rat := ((ws[k]?.getD 1 : Nat) : Rat)
theorem wR_eq {ws : List Nat} {k a : Nat} (h : ws[k]? = some a) : wR ws k = (a : Rat) := by
  unfold wR
  rw [h]
  rfl
theorem step_w {ws : List Nat} {ss : List Sg} (hm : ∀ s ∈ ss, MeetOf ws s) {x : Pr2} (h : x.1 < ss.length) : (stepBy ss x).2.2 * wR ws (stepBy ss x).1 = wR ws (stepBy ss x).2.1 ∧ wR ws (stepBy ss x).1 ≠ 0 := by
  have em : ss[x.1]? = some (ss[x.1]'h) := List.getElem?_eq_getElem h
  obtain ⟨a, b, f⟩ := (hm _ (List.getElem_mem h)).facts
  have pa := natr_pos f.a0
  have pb := natr_pos f.b0
  unfold stepBy
  simp only [em]
  split
  · show (ss[x.1]'h).sh * wR ws (ss[x.1]'h).i = wR ws (ss[x.1]'h).j ∧ wR ws (ss[x.1]'h).i ≠ 0
    rw [wR_eq f.hi, wR_eq f.hj, f.sh]
    refine ⟨?_, ?_⟩ <;> grind
  · show 1 / (ss[x.1]'h).sh * wR ws (ss[x.1]'h).j = wR ws (ss[x.1]'h).i ∧ wR ws (ss[x.1]'h).j ≠ 0
    rw [wR_eq f.hi, wR_eq f.hj, f.sh]
    refine ⟨?_, ?_⟩ <;> grind
theorem chain_prod {ws : List Nat} {ss : List Sg} (hm : ∀ s ∈ ss, MeetOf ws s) : ∀ {l : List Pr2} {a c : Nat}, Chain ss l a c → rprod (l.map (stepBy ss)) * wR ws a = wR ws c
  | [], a, c, h => by
    cases (show a = c from h)
    show 1 * wR ws a = wR ws a
    grind
  | x :: l, a, c, h => by
    obtain ⟨h1, h2, h3⟩ := h
    have ih := chain_prod hm h3
    obtain ⟨g1, g2⟩ := step_w hm h1.1
    show (stepBy ss x).2.2 * rprod (l.map (stepBy ss)) * wR ws a = wR ws c
    rw [← h2]
    grind
theorem chain_of {ss : List Sg} : ∀ (r : List Pr2) (x : Pr2), (∀ y ∈ x :: r, y.1 < ss.length ∧ y.2 < 2) → (∀ (k : Nat) (y z : Pr2), (x :: r)[k]? = some y → (x :: r)[k + 1]? = some z → (stepBy ss y).2.1 = (stepBy ss z).1) → ∃ c, Chain ss (x :: r) (stepBy ss x).1 c ∧ ∀ z, (x :: r)[r.length]? = some z → (stepBy ss z).2.1 = c
  | [], x, ho, _ => ⟨_, ⟨ho x List.mem_cons_self, rfl, rfl⟩, fun z e => by cases e; rfl⟩
  | y :: r, x, ho, ha => by
    obtain ⟨c, h1, h2⟩ := chain_of r y (fun z hz => ho z (List.mem_cons_of_mem _ hz)) fun k p q e1 e2 => ha (k + 1) p q e1 e2
    refine ⟨c, ⟨ho x List.mem_cons_self, rfl, ?_⟩, fun z e => h2 z e⟩
    have := ha 0 x y rfl rfl
    rw [this]
    exact h1
theorem cons_noring {ws : List Nat} {ss : List Sg} {rg : List Pr2} (hm : ∀ s ∈ ss, MeetOf ws s) (h : IsRing ss rg) : False := by
  cases rg with
  | nil => exact h.ne rfl
  | cons x r =>
    obtain ⟨c, h1, h2⟩ := chain_of r x h.ok fun k y z e1 e2 => h.adj k y z e1 (by
      have hk := (List.getElem?_eq_some_iff.mp e2).1
      rw [List.length_cons] at hk
      rw [List.getElem?_append_left (by rw [List.length_drop, List.length_cons]; omega), List.getElem?_drop, Nat.add_comm 1 k]
      exact e2)
    have el : (x :: r)[r.length]? = some ((x :: r)[r.length]'(by simp)) := List.getElem?_eq_getElem (by simp)
    have ec := h2 _ el
    have ea := h.adj r.length _ x el (by
      rw [List.getElem?_append_right (by rw [List.length_drop, List.length_cons]; omega), List.length_drop, List.length_cons, show r.length - (r.length + 1 - 1) = 0 by omega]
      rfl)
    rw [ec] at ea
    have hp := chain_prod hm h1
    rw [← ea] at hp
    obtain ⟨_, g0⟩ := step_w hm (h.ok x List.mem_cons_self).1
    rw [← ea] at g0
    apply h.prod
    grind
/-! ### the weights of a part -/
theorem part_w {ws : List Nat} {ss : List Sg} {n b : Nat} {l : Wt} {c : Cm} (hm : ∀ s ∈ ss, MeetOf ws s) (hp : PI ss n b l c) : ∀ (m : Nat) (k : Nat) (q : Rat), l[m]? = some (k, q) → q * wR ws b = wR ws k := by
  intro m
  induction m using Nat.strongRecOn with
  | _ m ih =>
    intro k q e
    cases m with
    | zero =>
      rw [hp.root.1] at e
      cases e
      grind
    | succ m =>
      obtain ⟨sn, wy, bf, m', qb, sh, _, hsn, _, hm', hbf, est, rfl⟩ := hp.tree m k q e
      have h1 := ih m' (by omega) bf qb hbf
      obtain ⟨h2, h3⟩ := step_w hm (x := (sn, wy)) hsn
      rw [est] at h2 h3
      have h2 : sh * wR ws bf = wR ws k := h2
      grind
/-! ### gcds of lists -/
theorem dvd_commonUp {l : List Nat} {d : Nat} (h : ∀ x ∈ l, d ∣ x) : ∀ k, d ∣ commonUp l k
  | 0 => Nat.dvd_zero d
  | k + 1 => by
    unfold commonUp
    split
    · rename_i x e
      exact Nat.dvd_gcd (dvd_commonUp h k) (h x (List.mem_of_getElem? e))
    · exact dvd_commonUp h k
theorem dvd_common {l : List Nat} {d : Nat} (h : ∀ x ∈ l, d ∣ x) : d ∣ common l := dvd_commonUp h _
theorem commonUp_mul (l : List Nat) (B : Nat) : ∀ k, commonUp (l.map (· * B)) k = commonUp l k * B
  | 0 => by
    show 0 = 0 * B
    rw [Nat.zero_mul]
  | k + 1 => by
    have ih := commonUp_mul l B k
    unfold commonUp
    rw [ih, List.getElem?_map]
    cases l[k]? with
    | none => rfl
    | some x =>
      show Nat.gcd (commonUp l k * B) (x * B) = Nat.gcd (commonUp l k) x * B
      exact Nat.gcd_mul_right _ _ _
theorem common_mul (l : List Nat) (B : Nat) : common (l.map (· * B)) = common l * B := by
  unfold common
  rw [List.length_map]
  exact commonUp_mul l B _
theorem common_set {l r : List Nat} (h : ∀ x, x ∈ l ↔ x ∈ r) : common l = common r :=
  Nat.dvd_antisymm (dvd_common fun x hx => common_dvd ((h x).mpr hx)) (dvd_common fun x hx => common_dvd ((h x).mp hx))
/-- the whole numbers of a part -/
def zN (l : Wt) (q : Rat) : Nat := (zOf (bot l) q).toNat
theorem byUp_common {l : Wt} (h : SmW l) : ∀ k, k ≤ l.length → byUp l (bot l) k = commonUp (l.map fun y => zN l y.2) k
  | 0, _ => rfl
  | k + 1, hk => by
    have ih := byUp_common h k (by omega)
    have e : l[k]? = some l[k] := List.getElem?_eq_getElem (by omega)
    unfold byUp commonUp
    rw [ih, List.getElem?_map, e]
    show Int.gcd _ (zOf (bot l) (l[k]).2) = Nat.gcd _ (zN l (l[k]).2)
    have hp := zOf_pos h (List.getElem_mem (show k < l.length by omega))
    have : zOf (bot l) (l[k]).2 = ((zN l (l[k]).2 : Nat) : Int) := by unfold zN; omega
    rw [this]
    exact gcd_cast _ _
theorem byOf_common {l : Wt} (h : SmW l) : byOf l = common (l.map fun y => zN l y.2) := by
  unfold byOf common
  rw [byUp_common h _ (Nat.le_refl _), List.length_map]
/-- z = q * bottom -/
theorem zN_eq {l : Wt} (h : SmW l) {y : Nat × Rat} (hy : y ∈ l) : (zN l y.2 : Rat) = y.2 * (bot l : Rat) := by
  have hp := zOf_pos h hy
  have e1 : ((zN l y.2 : Nat) : Int) = zOf (bot l) y.2 := by unfold zN; omega
  have e2 : ((zN l y.2 : Nat) : Rat) = ((zOf (bot l) y.2 : Int) : Rat) := by rw [← e1, cast_nat]
  rw [e2]
  unfold zOf
  have hd := bot_dvd hy
  have e3 : bot l = bot l / y.2.den * y.2.den := (Nat.div_mul_cancel hd).symm
  have e4 : (bot l : Rat) = ((bot l / y.2.den : Nat) : Rat) * (y.2.den : Rat) := by
    rw [← Rat.natCast_mul, ← e3]
  rw [Rat.intCast_mul, cast_nat, e4]
  have e5 : y.2 * (y.2.den : Rat) = (y.2.num : Rat) := by
    have h1 := Rat.num_divInt_den y.2
    rw [Rat.divInt_eq_div, cast_nat] at h1
    have h2 := natr_pos y.2.den_pos
    grind
  generalize ((bot l / y.2.den : Nat) : Rat) = u
  rw [← e5]
  grind
end K57
/-! G2: the parts by sweeps, the weights told -/
namespace K57
open PySem PySem.Spec PyProof.Rows L2 PD M
def edge (ts : List Sg) (k : Nat) : Bool := ts.any fun s => decide (s.i = k)
theorem edge_iff {ts : List Sg} {k : Nat} : edge ts k = true ↔ ∃ s ∈ ts, s.i = k := by
  unfold edge
  rw [List.any_eq_true]
  simp
/-- the first ball of k's part -/
def rt (ts : List Sg) : Nat → Nat
  | 0 => 0
  | k + 1 => if edge ts k = true then rt ts k else k + 1
theorem rt_le (ts : List Sg) : ∀ k, rt ts k ≤ k
  | 0 => Nat.le_refl _
  | k + 1 => by
    have := rt_le ts k
    unfold rt
    split <;> omega
theorem rt_edge {ts : List Sg} {s : Sg} (h : s ∈ ts) : rt ts (s.i + 1) = rt ts s.i := by
  show (if edge ts s.i = true then rt ts s.i else s.i + 1) = _
  rw [if_pos (edge_iff.mpr ⟨s, h, rfl⟩)]
abbrev NX (n : Nat) (ts : List Sg) : Prop := ∀ t ∈ ts, t.j = t.i + 1 ∧ t.j < n
structure PsI (n : Nat) (ts : List Sg) (p : List Nat) : Prop where
  len : p.length = n
  in_ : ∀ k a, p[k]? = some a → rt ts k ≤ a ∧ a ≤ k
theorem relax_get {p : List Nat} {s : Sg} {a b : Nat} (ha : p[s.i]? = some a) (hb : p[s.j]? = some b) (k : Nat) : (relax p s)[k]? = if k = s.i ∨ k = s.j then some (min a b) else p[k]? := by
  have li := (List.getElem?_eq_some_iff.mp ha).1
  have lj := (List.getElem?_eq_some_iff.mp hb).1
  unfold relax
  rw [ha, hb]
  simp only
  by_cases h1 : k = s.j
  · subst h1
    rw [List.getElem?_set_self (by rw [List.length_set]; exact lj), if_pos (.inr rfl)]
  · rw [List.getElem?_set_ne (fun z => h1 z.symm)]
    by_cases h2 : k = s.i
    · subst h2
      rw [List.getElem?_set_self li, if_pos (.inl rfl)]
    · rw [List.getElem?_set_ne (fun z => h2 z.symm), if_neg (by rintro (z | z); exact h2 z; exact h1 z)]
theorem relax_inv {n : Nat} {ts : List Sg} {p : List Nat} {s : Sg} (h : PsI n ts p) (hs : s ∈ ts) (hn : NX n ts) : PsI n ts (relax p s) ∧ (∀ k, p[k]? = some (rt ts k) → (relax p s)[k]? = some (rt ts k)) ∧ (p[s.i]? = some (rt ts s.i) → (relax p s)[s.j]? = some (rt ts s.j)) := by
  obtain ⟨ej, lj⟩ := hn s hs
  have li : s.i < n := by omega
  have ha : p[s.i]? = some (p[s.i]'(by rw [h.len]; exact li)) := List.getElem?_eq_getElem (by rw [h.len]; exact li)
  have hb : p[s.j]? = some (p[s.j]'(by rw [h.len]; exact lj)) := List.getElem?_eq_getElem (by rw [h.len]; exact lj)
  generalize p[s.i]'(by rw [h.len]; exact li) = a at ha
  generalize p[s.j]'(by rw [h.len]; exact lj) = b at hb
  obtain ⟨a1, a2⟩ := h.in_ _ _ ha
  obtain ⟨b1, b2⟩ := h.in_ _ _ hb
  have er : rt ts s.j = rt ts s.i := by rw [ej]; exact rt_edge hs
  have g := relax_get ha hb
  refine ⟨⟨by rw [relax_len, h.len], fun k x e => ?_⟩, fun k e => ?_, fun e => ?_⟩
  · rw [g] at e
    split at e
    · rename_i c
      cases e
      rcases c with rfl | rfl <;> omega
    · exact h.in_ k x e
  · rw [g]
    split
    · rename_i c
      rcases c with rfl | rfl
      · rw [ha] at e
        cases e
        congr 1
        omega
      · rw [hb] at e
        cases e
        congr 1
        omega
    · exact e
  · rw [ha] at e
    cases e
    rw [g, if_pos (.inr rfl)]
    congr 1
    omega
theorem sweepUp_succ {ts : List Sg} {p : List Nat} {k : Nat} {s : Sg} (e : ts[k]? = some s) : sweepUp ts p (k + 1) = relax (sweepUp ts p k) s := by
  show (match ts[k]? with | some s => relax (sweepUp ts p k) s | none => sweepUp ts p k) = _
  rw [e]
theorem sweepUp_inv {n : Nat} {ts : List Sg} {p : List Nat} (h : PsI n ts p) (hn : NX n ts) : ∀ k, k ≤ ts.length → PsI n ts (sweepUp ts p k) ∧ (∀ j, p[j]? = some (rt ts j) → (sweepUp ts p k)[j]? = some (rt ts j)) ∧ (∀ (m : Nat) (s : Sg), m < k → ts[m]? = some s → p[s.i]? = some (rt ts s.i) → (sweepUp ts p k)[s.j]? = some (rt ts s.j))
  | 0, _ => ⟨h, fun _ e => e, fun m s hm => by omega⟩
  | k + 1, hk => by
    obtain ⟨i1, i2, i3⟩ := sweepUp_inv h hn k (by omega)
    have e : ts[k]? = some (ts[k]'(by omega)) := List.getElem?_eq_getElem (by omega)
    have hs : (ts[k]'(by omega)) ∈ ts := List.getElem_mem _
    rw [sweepUp_succ e]
    obtain ⟨r1, r2, r3⟩ := relax_inv i1 hs hn
    refine ⟨r1, fun j e => r2 j (i2 j e), fun m s hm es hp => ?_⟩
    by_cases hmk : m < k
    · exact r2 _ (i3 m s hmk es hp)
    · have : m = k := by omega
      subst this
      rw [e] at es
      cases es
      exact r3 (i2 _ hp)
theorem sweeps_inv {n : Nat} {ts : List Sg} (hn : NX n ts) : ∀ t, PsI n ts (sweeps n ts t) ∧ ∀ k, k < n → k - rt ts k ≤ t → (sweeps n ts t)[k]? = some (rt ts k)
  | 0 => by
    have e : ∀ k, k < n → (List.range n)[k]? = some k := fun k hk => List.getElem?_range hk
    refine ⟨⟨List.length_range, fun k a ea => ?_⟩, fun k hk h => ?_⟩
    · have hk := (List.getElem?_eq_some_iff.mp ea).1
      have ea : (List.range n)[k]? = some a := ea
      rw [e k (by simpa [sweeps] using hk)] at ea
      cases ea
      exact ⟨rt_le ts k, Nat.le_refl _⟩
    · have := rt_le ts k
      show (List.range n)[k]? = _
      rw [e k hk]
      congr 1
      omega
  | t + 1 => by
    obtain ⟨i1, i2⟩ := sweeps_inv hn t
    obtain ⟨s1, s2, s3⟩ := sweepUp_inv i1 hn ts.length (Nat.le_refl _)
    refine ⟨s1, fun k hk h => ?_⟩
    by_cases hkt : k - rt ts k ≤ t
    · exact s2 k (i2 k hk hkt)
    · cases k with
      | zero => omega
      | succ k =>
        by_cases he : edge ts k = true
        · obtain ⟨s, hs, es⟩ := edge_iff.mp he
          obtain ⟨m, em⟩ := List.getElem?_of_mem hs
          have er : rt ts (k + 1) = rt ts k := by
            show (if edge ts k = true then rt ts k else k + 1) = _
            rw [if_pos he]
          have hj := (hn s hs).1
          have := rt_le ts k
          have h2 := s3 m s (List.getElem?_eq_some_iff.mp em).1 em (by rw [es]; exact i2 k (by omega) (by omega))
          rw [hj, es] at h2
          exact h2
        · have er : rt ts (k + 1) = k + 1 := by
            show (if edge ts k = true then rt ts k else k + 1) = _
            rw [if_neg he]
          omega
theorem parts_rt {n : Nat} {ts : List Sg} (hn : NX n ts) {k : Nat} (hk : k < n) : (partsOf n ts)[k]? = some (rt ts k) := (sweeps_inv hn n).2 k hk (by omega)
theorem parts_none {n : Nat} {ts : List Sg} {k : Nat} (hk : ¬ k < n) : (partsOf n ts)[k]? = none := List.getElem?_eq_none (by unfold partsOf; rw [sweeps_len]; omega)
theorem mates_mem {ws ps : List Nat} {b : Nat} {x : Nat} : ∀ {m : Nat}, x ∈ mates ws ps b m → ∃ k, k < m ∧ ws[k]? = some x ∧ ps[k]? = ps[b]?
  | 0, h => by cases h
  | m + 1, h => by
    unfold mates at h
    have ih := fun h => mates_mem (ws := ws) (ps := ps) (b := b) (x := x) (m := m) h
    split at h
    · rename_i c
      rcases List.mem_append.mp h with h | h
      · obtain ⟨k, h1, h2⟩ := ih h
        exact ⟨k, by omega, h2⟩
      · cases e : ws[m]? with
        | none => rw [e] at h; cases h
        | some y =>
          rw [e] at h
          rw [List.mem_singleton.mp h]
          exact ⟨m, by omega, e, c⟩
    · obtain ⟨k, h1, h2⟩ := ih h
      exact ⟨k, by omega, h2⟩
theorem cons_part {ws : List Nat} {n : Nat} {ss ts : List Sg} {b : Nat} {l : Wt} {c : Cm} (hm : ∀ s ∈ ss, MeetOf ws s) (hn : ws.length = n) (hpos : ∀ x ∈ ws, 0 < x) (he : SameEdges ss ts) (hnx : ∀ t ∈ ts, t.j = t.i + 1 ∧ t.j < n) (hp : PartIs ss n b l c none) (hn10 : n ≤ 10) : ∀ y ∈ wholeD l, y.2 = encN (leastW ws (partsOf n ts) y.1) := by
  obtain ⟨hw, hl0⟩ := hp.smw hn10
  -- keys are closed under the pairs
  have isk : ∀ k, (∃ q, (k, q) ∈ l) → k < n := fun k ⟨q, h⟩ => hp.pi.lt _ h
  have cl1 : ∀ s ∈ ss, (∃ q, (s.i, q) ∈ l) → ∃ q, (s.j, q) ∈ l := fun s hs ⟨q, h⟩ => by
    obtain ⟨m, h1, _⟩ := steps_of hs
    exact ⟨_, hp.cl rfl _ _ h _ h1⟩
  have cl2 : ∀ s ∈ ss, (∃ q, (s.j, q) ∈ l) → ∃ q, (s.i, q) ∈ l := fun s hs ⟨q, h⟩ => by
    obtain ⟨m, _, h1⟩ := steps_of hs
    exact ⟨_, hp.cl rfl _ _ h _ h1⟩
  have up : ∀ k, edge ts k = true → ((∃ q, (k, q) ∈ l) ↔ ∃ q, (k + 1, q) ∈ l) := fun k hk => by
    obtain ⟨t, ht, rfl⟩ := edge_iff.mp hk
    obtain ⟨s, hs, h⟩ := he.b t ht
    have hj := (hnx t ht).1
    rw [← hj]
    rcases h with ⟨h1, h2⟩ | ⟨h1, h2⟩
    · rw [← h1, ← h2]
      exact ⟨cl1 s hs, cl2 s hs⟩
    · rw [← h1, ← h2]
      exact ⟨cl2 s hs, cl1 s hs⟩
  have toRt : ∀ k, (∃ q, (k, q) ∈ l) ↔ ∃ q, (rt ts k, q) ∈ l := fun k => by
    induction k with
    | zero => exact Iff.rfl
    | succ k ih =>
      by_cases hk : edge ts k = true
      · have : rt ts (k + 1) = rt ts k := by
          show (if edge ts k = true then rt ts k else k + 1) = _
          rw [if_pos hk]
        rw [this, ← ih]
        exact (up k hk).symm
      · have : rt ts (k + 1) = k + 1 := by
          show (if edge ts k = true then rt ts k else k + 1) = _
          rw [if_neg hk]
        rw [this]
  have sameRt : ∀ s ∈ ss, rt ts s.i = rt ts s.j := fun s hs => by
    obtain ⟨t, ht, h⟩ := he.a s hs
    have hj := (hnx t ht).1
    have hr := rt_edge ht
    rw [← hj] at hr
    rcases h with ⟨h1, h2⟩ | ⟨h1, h2⟩
    · rw [h1, h2, hr]
    · rw [h1, h2, hr]
  have stepRt : ∀ x : Pr2, x.1 < ss.length → rt ts (stepBy ss x).1 = rt ts (stepBy ss x).2.1 := fun x h => by
    have em : ss[x.1]? = some (ss[x.1]'h) := List.getElem?_eq_getElem h
    have := sameRt _ (List.getElem_mem h)
    unfold stepBy
    simp only [em]
    split
    · exact this
    · exact this.symm
  have allRt : ∀ (m k : Nat) (q : Rat), l[m]? = some (k, q) → rt ts k = rt ts b := by
    intro m
    induction m using Nat.strongRecOn with
    | _ m ih =>
      intro k q e
      cases m with
      | zero =>
        rw [hp.pi.root.1] at e
        cases e
        rfl
      | succ m =>
        obtain ⟨sn, wy, bf, m', qb, sh, _, hsn, _, hm', hbf, est, rfl⟩ := hp.pi.tree m k q e
        have h1 := ih m' (by omega) bf qb hbf
        have h2 := stepRt (sn, wy) hsn
        rw [est] at h2
        exact h2.symm.trans h1
  intro y hy
  obtain ⟨q, hq, e2⟩ := whole_key hy
  have hkn : y.1 < n := hp.pi.lt _ hq
  have ew : ws[y.1]? = some (ws[y.1]'(by omega)) := List.getElem?_eq_getElem (by omega)
  obtain ⟨wk, hwk⟩ : ∃ wk, ws[y.1]? = some wk := ⟨_, ew⟩
  have hbn : b < n := hp.pi.lt _ (List.mem_of_getElem? hp.pi.root.1)
  obtain ⟨wb, hwb⟩ : ∃ wb, ws[b]? = some wb := ⟨_, List.getElem?_eq_getElem (by omega)⟩
  have wb0 := hpos wb (List.mem_of_getElem? hwb)
  have wk0 := hpos wk (List.mem_of_getElem? hwk)
  -- z * w_b = w_k * bottom
  have zw : ∀ k qk, (k, qk) ∈ l → ∀ w, ws[k]? = some w → zN l qk * wb = w * bot l := fun k qk hk w hw' => by
    obtain ⟨m, em⟩ := List.getElem?_of_mem hk
    have h1 := part_w hm hp.pi m k qk em
    rw [wR_eq hwb, wR_eq hw'] at h1
    have h2 := zN_eq hw hk
    have h3 : ((zN l qk * wb : Nat) : Rat) = ((w * bot l : Nat) : Rat) := by
      rw [Rat.natCast_mul, Rat.natCast_mul, h2, ← h1]
      show qk * (bot l : Rat) * (wb : Rat) = qk * (wb : Rat) * (bot l : Rat)
      grind
    exact Rat.natCast_inj.mp h3
  -- the two gcds
  have hset : ∀ x, x ∈ (l.map fun y => zN l y.2).map (· * wb) ↔ x ∈ (mates ws (partsOf n ts) y.1 ws.length).map (· * bot l) := fun x => by
    constructor
    · intro hx
      obtain ⟨z, hz, rfl⟩ := List.mem_map.mp hx
      obtain ⟨⟨k, qk⟩, hk, rfl⟩ := List.mem_map.mp hz
      have hkl : k < n := hp.pi.lt _ hk
      have ekw : ws[k]? = some (ws[k]'(by omega)) := List.getElem?_eq_getElem (by omega)
      refine List.mem_map.mpr ⟨ws[k]'(by omega), ?_, (zw k qk hk _ ekw).symm⟩
      refine mem_mates ekw ?_ (by omega)
      rw [parts_rt hnx hkl, parts_rt hnx hkn]
      obtain ⟨m1, em1⟩ := List.getElem?_of_mem hk
      obtain ⟨m2, em2⟩ := List.getElem?_of_mem hq
      rw [allRt m1 _ _ em1, allRt m2 _ _ em2]
    · intro hx
      obtain ⟨w, hw', rfl⟩ := List.mem_map.mp hx
      obtain ⟨k, hk1, hk2, hk3⟩ := mates_mem hw'
      rw [parts_rt hnx (by omega), parts_rt hnx hkn] at hk3
      have hk3 := Option.some.inj hk3
      have : ∃ q, (k, q) ∈ l := (toRt k).mpr (by rw [hk3]; exact (toRt y.1).mp ⟨q, hq⟩)
      obtain ⟨qk, hqk⟩ := this
      exact List.mem_map.mpr ⟨zN l qk, List.mem_map.mpr ⟨_, hqk, rfl⟩, zw k qk hqk w hk2⟩
  have hg : byOf l * wb = common (mates ws (partsOf n ts) y.1 ws.length) * bot l := by
    rw [byOf_common hw, ← common_mul, ← common_mul]
    exact common_set hset
  have hz := zw y.1 q hq wk hwk
  have hin : wk ∈ mates ws (partsOf n ts) y.1 ws.length := mem_mates hwk rfl (by omega)
  obtain ⟨v, hv⟩ := common_dvd hin
  have hby := byOf_lt hw hl0
  have hzp : 0 < zOf (bot l) q := zOf_pos hw hq
  have hzN : zOf (bot l) q = ((zN l q : Nat) : Int) := by unfold zN; omega
  have hbd : byOf l ∣ zN l q := by
    have := byOf_dvd hq
    rw [show (zOf (bot l) (y.1, q).2) = ((zN l q : Nat) : Int) from hzN] at this
    exact Int.ofNat_dvd.mp this
  obtain ⟨u, hu⟩ := hbd
  have huv : u = v := by
    have h1 : byOf l * wb * u = byOf l * wb * v := by
      have : byOf l * wb * u = zN l q * wb := by rw [hu]; ac_rfl
      rw [this, hz, hv, hg]
      ac_rfl
    exact Nat.eq_of_mul_eq_mul_left (Nat.mul_pos (Nat.pos_of_ne_zero hby.1) wb0) h1
  rw [e2, hzN]
  unfold encN leastW
  rw [hwk]
  show PyData.int (((zN l q : Nat) : Int).fdiv (byOf l : Nat)) = PyData.int ((wk / common (mates ws (partsOf n ts) y.1 ws.length) : Nat) : Int)
  rw [← Int.ofNat_fdiv, hu, Nat.mul_div_cancel_left _ (Nat.pos_of_ne_zero hby.1), huv]
  have hc0 : 0 < common (mates ws (partsOf n ts) y.1 ws.length) := common_pos hin wk0
  have : wk / common (mates ws (partsOf n ts) y.1 ws.length) = v := by
    conv => lhs; rw [hv]
    exact Nat.mul_div_cancel_left _ hc0
  rw [this]
end K57
/-! G3: a coming keeps the row's order -/
namespace K57
open PySem PySem.Spec PyProof.Rows L2 PD M
/-! ### the least moment -/
theorem better_le {o m : Option Rat} {t : Rat} (h : better o m = some t) : (∀ x, o = some x → t ≤ x) ∧ (∀ x, m = some x → t ≤ x) := by
  cases m with
  | none =>
    have h : o = some t := h
    subst h
    exact ⟨fun x e => by cases e; exact Rat.le_refl, fun x e => by cases e⟩
  | some y =>
    cases o with
    | none =>
      cases h
      exact ⟨fun x e => (by cases e), fun x e => by cases e; exact Rat.le_refl⟩
    | some z =>
      have h : (if y < z then some y else some z) = some t := h
      split at h
      · rename_i c
        cases h
        exact ⟨fun x e => (by cases e; exact Rat.le_of_lt c), fun x e => by cases e; exact Rat.le_refl⟩
      · rename_i c
        cases h
        exact ⟨fun x e => (by cases e; exact Rat.le_refl), fun x e => by cases e; exact Rat.not_lt.mp c⟩
theorem better_none_iff {o m : Option Rat} (h : better o m = none) : o = none ∧ m = none := by
  cases m with
  | none => exact ⟨h, rfl⟩
  | some y =>
    cases o with
    | none => cases h
    | some z =>
      have h : (if y < z then some y else some z) = none := h
      split at h <;> cases h
theorem leastUp_le {th : List Th} : ∀ {k : Nat} {t : Rat}, leastUp th k = some t → ∀ (m : Nat) (a b : Th) (x : Rat), m < k → th[m]? = some a → th[m + 1]? = some b → meet a b = some x → t ≤ x
  | 0, t, h, m, a, b, x, hm, _, _, _ => by omega
  | k + 1, t, h, m, a, b, x, hm, ea, eb, ex => by
    unfold leastUp at h
    by_cases hmk : m = k
    · subst hmk
      rw [ea, eb] at h
      exact (better_le h).2 x ex
    · split at h
      · rename_i a' b' ea' eb'
        cases hl : leastUp th k with
        | none =>
          have key : ∀ {j : Nat}, leastUp th j = none → ∀ (m : Nat) (a b : Th) (x : Rat), m < j → th[m]? = some a → th[m + 1]? = some b → meet a b = some x → False := by
            intro j
            induction j with
            | zero => intro _ m _ _ _ hm; omega
            | succ j ih =>
              intro hj m a b x hm ea eb ex
              unfold leastUp at hj
              by_cases hmj : m = j
              · subst hmj
                rw [ea, eb] at hj
                have := (better_none_iff hj).2
                rw [ex] at this
                cases this
              · split at hj
                · exact ih (better_none_iff hj).1 m a b x (by omega) ea eb ex
                · exact ih hj m a b x (by omega) ea eb ex
          exact (key hl m a b x (by omega) ea eb ex).elim
        | some t' =>
          have h1 := leastUp_le hl m a b x (by omega) ea eb ex
          rw [hl] at h
          exact Rat.le_trans ((better_le h).1 t' rfl) h1
      · exact leastUp_le h m a b x (by omega) ea eb ex
theorem Nb.w {a b : Th} (h : Nb a b) : NbW a b := by
  rcases h with h | ⟨h1, h2⟩
  · exact .inl h
  · exact .inr ⟨h1, Rat.le_of_lt h2⟩
/-- the row and the high wall -/
def tailT (row : List Ball) (hi : Wl) : List Th := row.map Ball.th ++ hi.toList
theorem tail_row {row : List Ball} {hi : Wl} {k : Nat} {b : Ball} (e : row[k]? = some b) : (tailT row hi)[k]? = some b.th := by
  have hk := (List.getElem?_eq_some_iff.mp e).1
  unfold tailT
  rw [List.getElem?_append_left (by rw [List.length_map]; exact hk), List.getElem?_map, e]
  rfl
theorem tail_hi {row : List Ball} {hi : Wl} {a : Th} (e : hi = some a) : (tailT row hi)[row.length]? = some a := by
  unfold tailT
  rw [List.getElem?_append_right (by rw [List.length_map]; exact Nat.le_refl _), List.length_map, Nat.sub_self, e]
  rfl
theorem tail_inv {row : List Ball} {hi : Wl} {k : Nat} {a : Th} (e : (tailT row hi)[k]? = some a) : (∃ b, row[k]? = some b ∧ a = b.th) ∨ (k = row.length ∧ hi = some a) := by
  unfold tailT at e
  by_cases hk : k < row.length
  · rw [List.getElem?_append_left (by rw [List.length_map]; exact hk), List.getElem?_map] at e
    cases q : row[k]? with
    | none => rw [q] at e; cases e
    | some b => rw [q] at e; cases e; exact .inl ⟨b, rfl, rfl⟩
  · rw [List.getElem?_append_right (by rw [List.length_map]; omega), List.length_map] at e
    cases hi with
    | none => cases e
    | some x =>
      have h0 : k - row.length = 0 := by
        have := (List.getElem?_eq_some_iff.mp e).1
        simp at this
        omega
      rw [h0] at e
      cases e
      exact .inr ⟨by omega, rfl⟩
theorem things_none {row : List Ball} {hi : Wl} : things row (none, hi) = tailT row hi := rfl
theorem things_some {row : List Ball} {hi : Wl} {x : Th} : things row (some x, hi) = x :: tailT row hi := rfl
theorem tail_nb {row : List Ball} {ws : Ws} (h : RowIn row ws) {k : Nat} {a b : Th} (ea : (tailT row ws.2)[k]? = some a) (eb : (tailT row ws.2)[k + 1]? = some b) : NbW a b := by
  rcases tail_inv ea with ⟨x, ex, rfl⟩ | ⟨hk, hx⟩
  · rcases tail_inv eb with ⟨y, ey, rfl⟩ | ⟨hk, hy⟩
    · exact (h.nb k x y ex ey).w
    · exact h.hi b x hy (by rw [show row.length - 1 = k by omega]; exact ex)
  · rcases tail_inv eb with ⟨y, ey, rfl⟩ | ⟨hk2, hy⟩
    · have := (List.getElem?_eq_some_iff.mp ey).1
      omega
    · omega
/-- neighbours among the things -/
theorem things_nb {row : List Ball} {ws : Ws} (h : RowIn row ws) : ∀ (k : Nat) (a b : Th), (things row ws)[k]? = some a → (things row ws)[k + 1]? = some b → NbW a b := fun k a b ea eb => by
  obtain ⟨lo, hi⟩ := ws
  cases lo with
  | none =>
    rw [things_none] at ea eb
    exact tail_nb h ea eb
  | some x =>
    rw [things_some] at ea eb
    cases k with
    | zero =>
      cases ea
      rw [List.getElem?_cons_succ] at eb
      rcases tail_inv eb with ⟨y, ey, rfl⟩ | ⟨hk, hy⟩
      · exact h.lo a y rfl ey
      · have := h.ne
        omega
    | succ k => exact tail_nb h (by simpa using ea) (by simpa using eb)
/-- two that stand at k, k + 1 of the row and the high wall -/
theorem least_tail {row : List Ball} {ws : Ws} {t : Rat} (e : least (things row ws) = some t) {k : Nat} {a b : Th} (ea : (tailT row ws.2)[k]? = some a) (eb : (tailT row ws.2)[k + 1]? = some b) : ∀ x, meet a b = some x → t ≤ x := fun x ex => by
  obtain ⟨lo, hi⟩ := ws
  have hk : k + 1 < (tailT row hi).length := (List.getElem?_eq_some_iff.mp eb).1
  cases lo with
  | none =>
    rw [things_none] at e
    exact leastUp_le e k a b x (by omega) ea eb ex
  | some y =>
    rw [things_some] at e
    exact leastUp_le e (k + 1) a b x (by rw [List.length_cons]; omega) (by simpa using ea) (by simpa using eb) ex
theorem least_lo {row : List Ball} {ws : Ws} {t : Rat} (e : least (things row ws) = some t) {a : Th} {b : Ball} (ea : ws.1 = some a) (eb : row[0]? = some b) : ∀ x, meet a b.th = some x → t ≤ x := fun x ex => by
  obtain ⟨lo, hi⟩ := ws
  have ea : lo = some a := ea
  subst ea
  rw [things_some] at e
  have h0 := tail_row (hi := hi) eb
  have hk := (List.getElem?_eq_some_iff.mp h0).1
  exact leastUp_le e 0 a b.th x (by rw [List.length_cons]; omega) rfl (by simpa using h0) ex
theorem meet_pos {a b : Th} {t : Rat} (h : NbW a b) (e : meet a b = some t) : 0 < t := by
  obtain ⟨h1, rfl⟩ := meet_some e
  have hd : 0 < a.2 - b.2 := by grind
  rw [Rat.lt_div_iff hd, Rat.zero_mul]
  rcases h with h | ⟨h2, h3⟩
  · grind
  · grind
theorem least_pos {row : List Ball} {ws : Ws} (h : RowIn row ws) {t : Rat} (e : least (things row ws) = some t) : 0 < t := by
  obtain ⟨m, a, b, hm, ea, eb, em⟩ := leastUp_from e
  exact meet_pos (things_nb h m a b ea eb) em
/-- no crossing up to the least moment -/
theorem nb_go {a b : Th} {t : Rat} (h : NbW a b) (t0 : 0 < t) (ht : ∀ x, meet a b = some x → t ≤ x) : a.1 + a.2 * t ≤ b.1 + b.2 * t := by
  by_cases c : b.2 < a.2
  · have hx := ht _ (show meet a b = some ((b.1 - a.1) / (a.2 - b.2)) by unfold meet; rw [if_pos c])
    have hd : 0 < a.2 - b.2 := by grind
    have h2 : t * (a.2 - b.2) ≤ b.1 - a.1 := by
      have := Rat.mul_le_mul_of_nonneg_right hx (Rat.le_of_lt hd)
      have e : (b.1 - a.1) / (a.2 - b.2) * (a.2 - b.2) = b.1 - a.1 := by grind
      rw [e] at this
      exact this
    grind
  · have c : a.2 ≤ b.2 := Rat.not_lt.mp c
    have h1 : a.2 * t ≤ b.2 * t := Rat.mul_le_mul_of_nonneg_right c (Rat.le_of_lt t0)
    rcases h with h | ⟨h, _⟩ <;> grind
/-- who stand at one place then were coming together -/
theorem nb_eq {a b : Th} {t : Rat} (h : NbW a b) (t0 : 0 < t) (e : a.1 + a.2 * t = b.1 + b.2 * t) : b.2 ≤ a.2 := by
  apply Rat.not_lt.mp
  intro c
  have h1 : a.2 * t < b.2 * t := Rat.mul_lt_mul_of_pos_right c t0
  rcases h with h | ⟨h, _⟩ <;> grind
theorem nb_eq' {a b : Th} {t : Rat} (h : Nb a b) (t0 : 0 < t) (e : a.1 + a.2 * t = b.1 + b.2 * t) : b.2 < a.2 := by
  apply Classical.byContradiction
  intro c
  have c : a.2 ≤ b.2 := Rat.not_lt.mp c
  have h1 : a.2 * t ≤ b.2 * t := Rat.mul_le_mul_of_nonneg_right c (Rat.le_of_lt t0)
  rcases h with h | ⟨h, h2⟩
  · grind
  · have h3 : a.2 * t < b.2 * t := Rat.mul_lt_mul_of_pos_right h2 t0
    grind
end K57
/-! G4: sorting, groups -/
namespace K57
open PySem PySem.Spec PyProof.Rows L2 PD M
theorem mem_insR {x z : Rat} : ∀ {l : List Rat}, z ∈ insR x l ↔ z = x ∨ z ∈ l
  | [] => by
    show z ∈ [x] ↔ _
    simp
  | y :: r => by
    unfold insR
    have ih := mem_insR (x := x) (z := z) (l := r)
    split
    · rw [List.mem_cons, ih, List.mem_cons]
      constructor
      · rintro (h | h | h)
        · exact .inr (.inl h)
        · exact .inl h
        · exact .inr (.inr h)
      · rintro (h | h | h)
        · exact .inr (.inl h)
        · exact .inl h
        · exact .inr (.inr h)
    · rw [List.mem_cons]
theorem insR_pw {x : Rat} : ∀ {l : List Rat}, l.Pairwise (· < ·) → x ∉ l → (insR x l).Pairwise (· < ·)
  | [], _, _ => List.pairwise_singleton _ _
  | y :: r, h, hx => by
    rw [List.pairwise_cons] at h
    unfold insR
    split
    · rename_i c
      rw [List.pairwise_cons]
      refine ⟨fun z hz => ?_, insR_pw h.2 fun e => hx (List.mem_cons_of_mem _ e)⟩
      rcases mem_insR.mp hz with rfl | hz
      · exact c
      · exact h.1 z hz
    · rename_i c
      have hxy : x ≠ y := fun e => hx (e ▸ List.mem_cons_self)
      have hlt : x < y := by
        have := Rat.not_lt.mp c
        grind
      rw [List.pairwise_cons]
      refine ⟨fun z hz => ?_, List.pairwise_cons.mpr h⟩
      rcases List.mem_cons.mp hz with rfl | hz
      · exact hlt
      · have := h.1 z hz
        grind
theorem riseUp_from {l : List Rat} {x : Rat} : ∀ {k : Nat}, x ∈ riseUp l k ↔ ∃ j, j < k ∧ l[j]? = some x
  | 0 => by
    constructor
    · intro h; cases h
    · rintro ⟨j, h, _⟩; omega
  | k + 1 => by
    have ih := riseUp_from (l := l) (x := x) (k := k)
    unfold riseUp
    cases e : l[k]? with
    | none =>
      simp only
      rw [ih]
      constructor
      · rintro ⟨j, h1, h2⟩; exact ⟨j, by omega, h2⟩
      · rintro ⟨j, h1, h2⟩
        by_cases hj : j = k
        · subst hj; rw [e] at h2; cases h2
        · exact ⟨j, by omega, h2⟩
    | some y =>
      simp only
      rw [mem_insR, ih]
      constructor
      · rintro (rfl | ⟨j, h1, h2⟩)
        · exact ⟨k, by omega, e⟩
        · exact ⟨j, by omega, h2⟩
      · rintro ⟨j, h1, h2⟩
        by_cases hj : j = k
        · subst hj; rw [e] at h2; cases h2; exact .inl rfl
        · exact .inr ⟨j, by omega, h2⟩
theorem riseUp_pw {l : List Rat} (h : l.Nodup) : ∀ k, k ≤ l.length → (riseUp l k).Pairwise (· < ·)
  | 0, _ => List.Pairwise.nil
  | k + 1, hk => by
    have ih := riseUp_pw h k (by omega)
    have e : l[k]? = some (l[k]'(by omega)) := List.getElem?_eq_getElem (by omega)
    unfold riseUp
    rw [e]
    simp only
    refine insR_pw ih fun hm => ?_
    obtain ⟨j, h1, h2⟩ := riseUp_from.mp hm
    have := (List.getElem?_inj (by omega) h).mp (h2.trans e.symm)
    omega
theorem rise_pw {l : List Rat} (h : l.Nodup) : (rise l).Pairwise (· < ·) := riseUp_pw h _ (Nat.le_refl _)
theorem mem_rise {l : List Rat} {x : Rat} : x ∈ rise l ↔ x ∈ l := by
  unfold rise
  rw [riseUp_from]
  constructor
  · rintro ⟨j, _, h⟩
    exact List.mem_of_getElem? h
  · intro h
    obtain ⟨j, e⟩ := List.getElem?_of_mem h
    exact ⟨j, (List.getElem?_eq_some_iff.mp e).1, e⟩
theorem natcast_w {b : Ball} : (((b.w : Int)) : Rat) = (b.w : Rat) := cast_nat _
theorem two_lt {a b : Ball} (h : b.s < a.s) (ha : 0 < a.w) (hb : 0 < b.w) : two1 a b < two2 a b := by
  have pa := natr_pos ha
  have pb := natr_pos hb
  unfold two1 two2
  rw [Rat.intCast_mul, Rat.intCast_mul, Rat.intCast_add, cast_nat, cast_nat]
  have e2 : ((2 : Int) : Rat) = 2 := rfl
  rw [e2]
  generalize (a.w : Rat) = x at pa
  generalize (b.w : Rat) = y at pb
  have pxy : x + y ≠ 0 := by grind
  have e1 : b.s + 2 * x * (a.s - b.s) / (x + y) - (a.s - 2 * y * (a.s - b.s) / (x + y)) = a.s - b.s := by grind
  grind
/-- what a group's new speeds are -/
theorem together_cases {balls : List Ball} {wl : Wl} {sp : List Rat} (h : together balls wl = some sp) : (∃ a b, balls = [a, b] ∧ wl = none ∧ sp = [two1 a b, two2 a b]) ∨ ((wl ≠ none ∨ balls.length ≠ 2) ∧ sp = rise (backBy wl (balls.map Ball.s))) := by
  unfold together at h
  split at h
  · rename_i a b
    cases h
    exact .inl ⟨a, b, rfl, rfl, rfl⟩
  · rename_i hno
    split at h
    · cases h
    · cases h
      refine .inr ⟨?_, rfl⟩
      cases wl with
      | some x => exact .inl (fun e => by cases e)
      | none =>
        right
        intro e
        match balls, e with
        | [a, b], _ => exact hno a b rfl rfl
theorem together_pw {balls : List Ball} {wl : Wl} {sp : List Rat} (h : together balls wl = some sp) (hd : balls.Pairwise fun a b => b.s < a.s) (hw : ∀ b ∈ balls, 0 < b.w) : sp.Pairwise (· < ·) := by
  rcases together_cases h with ⟨a, b, rfl, rfl, rfl⟩ | ⟨_, rfl⟩
  · have h1 : b.s < a.s := (List.pairwise_cons.mp hd).1 b List.mem_cons_self
    refine List.pairwise_cons.mpr ⟨fun z hz => ?_, List.pairwise_singleton _ _⟩
    rw [List.mem_singleton.mp hz]
    exact two_lt h1 (hw a List.mem_cons_self) (hw b (List.mem_cons_of_mem _ List.mem_cons_self))
  · refine rise_pw ?_
    have hs : (balls.map Ball.s).Pairwise fun x y => y < x := List.pairwise_map.mpr hd
    cases wl with
    | none =>
      show (balls.map Ball.s).Nodup
      refine hs.imp ?_
      intro x y h e
      rw [e] at h
      exact absurd h Rat.lt_irrefl
    | some a =>
      show ((balls.map Ball.s).map fun v => 2 * a.2 - v).Nodup
      refine List.pairwise_map.mpr (hs.imp ?_)
      intro x y h e
      grind
theorem together_ge {balls : List Ball} {a : Th} {sp : List Rat} (h : together balls (some a) = some sp) (hb : ∀ b ∈ balls, b.s ≤ a.2) : ∀ x ∈ sp, a.2 ≤ x := fun x hx => by
  rcases together_cases h with ⟨_, _, _, e, _⟩ | ⟨_, rfl⟩
  · cases e
  · obtain ⟨v, hv, rfl⟩ := List.mem_map.mp (mem_rise.mp hx)
    obtain ⟨b, hb', rfl⟩ := List.mem_map.mp hv
    have := hb b hb'
    grind
theorem together_le {balls : List Ball} {a : Th} {sp : List Rat} (h : together balls (some a) = some sp) (hb : ∀ b ∈ balls, a.2 ≤ b.s) : ∀ x ∈ sp, x ≤ a.2 := fun x hx => by
  rcases together_cases h with ⟨_, _, _, e, _⟩ | ⟨_, rfl⟩
  · cases e
  · obtain ⟨v, hv, rfl⟩ := List.mem_map.mp (mem_rise.mp hx)
    obtain ⟨b, hb', rfl⟩ := List.mem_map.mp hv
    have := hb b hb'
    grind
/-! ### groups -/
theorem endsAt_false {row : List Ball} {k : Nat} (h : endsAt row k = false) : ∃ b c, row[k]? = some b ∧ row[k + 1]? = some c ∧ c.p = b.p := by
  unfold endsAt at h
  split at h
  · rename_i b c eb ec
    exact ⟨b, c, eb, ec, by simpa using h⟩
  · cases h
theorem endsAt_of {row : List Ball} {k : Nat} {b c : Ball} (eb : row[k]? = some b) (ec : row[k + 1]? = some c) : endsAt row k = !decide (c.p = b.p) := by
  unfold endsAt
  rw [eb, ec]
/-- a group as groups_at tells it -/
structure GOk (row : List Ball) (ws : Ws) (g : Grp) : Prop where
  le : g.first ≤ g.last
  lt : g.last < row.length
  run : ∀ j, g.first ≤ j → j < g.last → endsAt row j = false
  st : g.first = 0 ∨ endsAt row (g.first - 1) = true
  en : endsAt row g.last = true
  wh : ∃ b, row[g.last]? = some b ∧ g.wh = wallThere ws b.p
structure GInv (row : List Ball) (ws : Ws) (k : Nat) (gs : List Grp) (f : Nat) : Prop where
  fk : f ≤ k
  run : ∀ j, f ≤ j → j < k → endsAt row j = false
  st : f = 0 ∨ endsAt row (f - 1) = true
  ok : ∀ g ∈ gs, GOk row ws g
  all : ∀ j, j < f → (∃ g ∈ gs, g.first ≤ j ∧ j ≤ g.last) ∨ (endsAt row j = true ∧ (j = 0 ∨ endsAt row (j - 1) = true) ∧ ∃ b, row[j]? = some b ∧ comesTo b.s ws (wallThere ws b.p) = false)
theorem gUp_ginv (row : List Ball) (ws : Ws) : ∀ k, k ≤ row.length → GInv row ws k (gUp row ws k).1 (gUp row ws k).2
  | 0, _ => ⟨Nat.le_refl _, (fun j _ h => absurd h (Nat.not_lt_zero j)), .inl rfl, (fun g hg => nomatch hg), fun j h => absurd h (Nat.not_lt_zero j)⟩
  | k + 1, hk => by
    have ih := gUp_ginv row ws k (by omega)
    have eb : row[k]? = some (row[k]'(by omega)) := List.getElem?_eq_getElem (by omega)
    rw [gUp_succ eb]
    by_cases c1 : endsAt row k = true
    · rw [if_pos c1]
      by_cases c2 : (decide ((gUp row ws k).2 < k) || comesTo (row[k]'(by omega)).s ws (wallThere ws (row[k]'(by omega)).p)) = true
      · rw [if_pos c2]
        refine ⟨Nat.le_refl _, fun j h1 h2 => ?_, .inr c1, fun g hg => ?_, fun j hj => ?_⟩
        · have h1 : k + 1 ≤ j := h1
          omega
        · rcases List.mem_append.mp hg with hg | hg
          · exact ih.ok g hg
          · rw [List.mem_singleton.mp hg]
            exact ⟨ih.fk, by show k < row.length; omega, ih.run, ih.st, c1, _, eb, rfl⟩
        · have hj : j < k + 1 := hj
          by_cases hjf : j < (gUp row ws k).2
          · rcases ih.all j hjf with ⟨g, hg, h⟩ | h
            · exact .inl ⟨g, List.mem_append_left _ hg, h⟩
            · exact .inr h
          · exact .inl ⟨_, List.mem_append_right _ List.mem_cons_self, by show (gUp row ws k).2 ≤ j; omega, by show j ≤ k; omega⟩
      · rw [if_neg c2]
        have c3 : ¬ (gUp row ws k).2 < k ∧ comesTo (row[k]'(by omega)).s ws (wallThere ws (row[k]'(by omega)).p) = false := by
          rw [Bool.not_eq_true, Bool.or_eq_false_iff] at c2
          exact ⟨of_decide_eq_false c2.1, c2.2⟩
        have hf : (gUp row ws k).2 = k := by have := ih.fk; omega
        refine ⟨Nat.le_refl _, fun j h1 h2 => ?_, .inr c1, ih.ok, fun j hj => ?_⟩
        · have h1 : k + 1 ≤ j := h1
          omega
        · have hj : j < k + 1 := hj
          by_cases hjf : j < k
          · exact ih.all j (by rw [hf]; exact hjf)
          · have : j = k := by omega
            subst this
            refine .inr ⟨c1, ?_, _, eb, c3.2⟩
            have := ih.st
            rw [hf] at this
            exact this
    · rw [if_neg c1]
      refine ⟨Nat.le_succ_of_le ih.fk, fun j h1 h2 => ?_, ih.st, ih.ok, ih.all⟩
      by_cases hj : j < k
      · exact ih.run j h1 hj
      · have : j = k := by omega
        subst this
        exact Bool.eq_false_iff.mpr c1
theorem groups_ok (row : List Ball) (ws : Ws) : GInv row ws row.length (groups row ws) (gUp row ws row.length).2 := gUp_ginv row ws _ (Nat.le_refl _)
theorem gUp_end {row : List Ball} {ws : Ws} (h : 0 < row.length) : (gUp row ws row.length).2 = row.length := by
  obtain ⟨k, hk⟩ : ∃ k, row.length = k + 1 := ⟨row.length - 1, by omega⟩
  have eb : row[k]? = some (row[k]'(by omega)) := List.getElem?_eq_getElem (by omega)
  have en : endsAt row k = true := by
    unfold endsAt
    rw [List.getElem?_eq_none (show row.length ≤ k + 1 by omega)]
    cases row[k]? <;> rfl
  rw [hk, gUp_succ eb, if_pos en]
end K57
/-! G5: the row behind a coming -/
namespace K57
open PySem PySem.Spec PyProof.Rows L2 PD M
theorem putUp_in {f : List Ball} {first : Nat} {balls : List Ball} {sp : List Rat} {i : Nat} {b : Ball} {v : Rat} (eb : balls[i]? = some b) (ev : sp[i]? = some v) (hf : first + i < f.length) : ∀ k, i < k → (putUp f first balls sp k)[first + i]? = some ⟨b.p, v, b.w⟩
  | k + 1, h => by
    unfold putUp
    by_cases hi : i = k
    · subst hi
      rw [eb, ev]
      simp only
      rw [List.getElem?_set_self (by rw [putUp_len]; exact hf)]
    · have ih := putUp_in eb ev hf k (by omega)
      split
      · rw [List.getElem?_set_ne (by omega)]
        exact ih
      · exact ih
theorem rebUp_get {row : List Ball} {ws : Ws} {gs : List Grp} : ∀ {k : Nat} {f : List Ball}, Inc row.length gs → k ≤ gs.length → rebUp row ws gs k = some f → f.length = row.length ∧ (∀ j, (∀ m g, m < k → gs[m]? = some g → j < g.first ∨ g.last < j) → f[j]? = row[j]?) ∧
    (∀ m g, m < k → gs[m]? = some g → ∃ sp, together (slice row g) (wallNamed ws g.wh) = some sp ∧ ∀ i b, i < g.last + 1 - g.first → row[g.first + i]? = some b → ∃ v, sp[i]? = some v ∧ f[g.first + i]? = some ⟨b.p, v, b.w⟩)
  | 0, f, _, _, h => by
    cases h
    exact ⟨rfl, fun _ _ => rfl, fun m g hm => absurd hm (Nat.not_lt_zero m)⟩
  | k + 1, f, hi, hk, h => by
    have ek : gs[k]? = some gs[k] := List.getElem?_eq_getElem (by omega)
    have h' : (match rebUp row ws gs k, gs[k]? with | some f, some g => (match together (slice row g) (wallNamed ws g.wh) with | some sp => some (putUp f g.first (slice row g) sp sp.length) | none => none) | r, _ => r) = some f := h
    cases e0 : rebUp row ws gs k with
    | none => rw [e0] at h'; cases h'
    | some f0 =>
      rw [e0, ek] at h'
      have h2 : (match together (slice row gs[k]) (wallNamed ws gs[k].wh) with | some sp => some (putUp f0 gs[k].first (slice row gs[k]) sp sp.length) | none => none) = some f := h'
      cases e1 : together (slice row gs[k]) (wallNamed ws gs[k].wh) with
      | none => rw [e1] at h2; cases h2
      | some sp =>
        rw [e1] at h2
        cases h2
        obtain ⟨l0, u0, v0⟩ := rebUp_get hi (by omega) e0
        have hg := hi.ok gs[k] (List.getElem_mem (by omega))
        have hs := together_len e1
        rw [slice_len hg.1 hg.2] at hs
        refine ⟨by rw [putUp_len, l0], fun j hj => ?_, fun m g hm eg => ?_⟩
        · have := hj k gs[k] (Nat.lt_succ_self _) ek
          rw [putUp_out _ _ _ _ _ (by omega)]
          exact u0 j fun m g hm e => hj m g (by omega) e
        · by_cases hmk : m = k
          · subst hmk
            rw [ek] at eg
            cases eg
            refine ⟨sp, e1, fun i b hi' eb => ?_⟩
            have ev : sp[i]? = some (sp[i]'(by omega)) := List.getElem?_eq_getElem (by omega)
            exact ⟨_, ev, putUp_in (by rw [slice_get hi']; exact eb) ev (by rw [l0]; omega) _ (by omega)⟩
          · obtain ⟨sp', h1, h3⟩ := v0 m g (by omega) eg
            refine ⟨sp', h1, fun i b hi' eb => ?_⟩
            obtain ⟨v, h4, h5⟩ := h3 i b hi' eb
            have hlt := hi.lt (show m < k by omega) eg ek
            exact ⟨v, h4, by rw [putUp_out _ _ _ _ _ (by omega)]; exact h5⟩
/-- all of a coming that does come -/
structure Came (row : List Ball) (ws : Ws) (t : Rat) (gs : List Grp) (r : List Ball) : Prop where
  le : least (things row ws) = some t
  sh : shut ws ≠ some t
  eg : gs = groups (row.map fun b => b.go t) (wsGo ws t)
  rb : rebound (row.map fun b => b.go t) (wsGo ws t) gs = some r
theorem came_of {row : List Ball} {ws ws2 : Ws} {t : Rat} {r : List Ball} (h : behindC row ws = .at_ t r ws2) : ∃ gs, Came row ws t gs r ∧ ws2 = wsGo ws t := by
  obtain ⟨gs, en, er, e⟩ := behindC_at h
  obtain ⟨h1, h2, h3⟩ := nextC_at en
  exact ⟨gs, ⟨h1, h2, h3, er⟩, e⟩
section
variable {row : List Ball} {ws : Ws} {t : Rat} {gs : List Grp} {r : List Ball}
theorem go_get {k : Nat} {b : Ball} (e : row[k]? = some b) : (row.map fun b => b.go t)[k]? = some (b.go t) := by
  rw [List.getElem?_map, e]
  rfl
theorem go_inv {k : Nat} {c : Ball} (e : (row.map fun b => b.go t)[k]? = some c) : ∃ b, row[k]? = some b ∧ c = b.go t := by
  rw [List.getElem?_map] at e
  cases q : row[k]? with
  | none => rw [q] at e; cases e
  | some b => rw [q] at e; cases e; exact ⟨b, rfl, rfl⟩
theorem Came.t0 (h : Came row ws t gs r) (hi : RowIn row ws) : 0 < t := least_pos hi h.le
/-- places then -/
theorem Came.step (h : Came row ws t gs r) (hi : RowIn row ws) {k : Nat} {a b : Ball} (ea : row[k]? = some a) (eb : row[k + 1]? = some b) : (a.go t).p ≤ (b.go t).p ∧ ((a.go t).p = (b.go t).p → b.s < a.s) := by
  have hn := hi.nb k a b ea eb
  refine ⟨nb_go hn.w (h.t0 hi) (least_tail h.le (tail_row ea) (tail_row eb)), fun e => nb_eq' hn (h.t0 hi) e⟩
theorem Came.lo (h : Came row ws t gs r) (hi : RowIn row ws) {a : Th} {b : Ball} (ea : ws.1 = some a) (eb : row[0]? = some b) : a.1 + a.2 * t ≤ (b.go t).p ∧ (a.1 + a.2 * t = (b.go t).p → b.s ≤ a.2) := by
  have hn := hi.lo a b ea eb
  exact ⟨nb_go hn (h.t0 hi) (least_lo h.le ea eb), fun e => nb_eq hn (h.t0 hi) e⟩
theorem Came.hi (h : Came row ws t gs r) (hi : RowIn row ws) {a : Th} {b : Ball} (ea : ws.2 = some a) (eb : row[row.length - 1]? = some b) : (b.go t).p ≤ a.1 + a.2 * t ∧ ((b.go t).p = a.1 + a.2 * t → a.2 ≤ b.s) := by
  have hn := hi.hi a b ea eb
  have hne := hi.ne
  have e2 : (tailT row ws.2)[row.length - 1 + 1]? = some a := by
    rw [show row.length - 1 + 1 = row.length by omega]
    exact tail_hi ea
  exact ⟨nb_go hn (h.t0 hi) (least_tail h.le (tail_row eb) e2), fun e => nb_eq hn (h.t0 hi) e⟩
/-- places are in order -/
theorem Came.mono (h : Came row ws t gs r) (hi : RowIn row ws) : ∀ (d k : Nat) (a b : Ball), row[k]? = some a → row[k + d]? = some b → (a.go t).p ≤ (b.go t).p
  | 0, k, a, b, ea, eb => by
    have eb : row[k]? = some b := eb
    rw [ea] at eb
    cases eb
    exact Rat.le_refl
  | d + 1, k, a, b, ea, eb => by
    have hk := (List.getElem?_eq_some_iff.mp eb).1
    have ec : row[k + d]? = some (row[k + d]'(by omega)) := List.getElem?_eq_getElem (by omega)
    exact Rat.le_trans (Came.mono h hi d k a _ ea ec) (h.step hi ec eb).1
theorem Came.lh (h : Came row ws t gs r) (hi : RowIn row ws) {a b : Th} (ea : ws.1 = some a) (eb : ws.2 = some b) : a.1 + a.2 * t < b.1 + b.2 * t := by
  have hne := hi.ne
  have e0 : row[0]? = some (row[0]'hne) := List.getElem?_eq_getElem hne
  have e1 : row[0 + (row.length - 1)]? = some (row[0 + (row.length - 1)]'(by omega)) := List.getElem?_eq_getElem (by omega)
  have h1 := (h.lo hi ea e0).1
  have h2 := h.mono hi (row.length - 1) 0 _ _ e0 e1
  have h3 := (h.hi hi eb (by rw [show row.length - 1 = 0 + (row.length - 1) by omega]; exact e1)).1
  have hle : a.1 + a.2 * t ≤ b.1 + b.2 * t := Rat.le_trans h1 (Rat.le_trans h2 h3)
  have hlt := hi.lh a b ea eb
  apply Classical.byContradiction
  intro c
  have he : a.1 + a.2 * t = b.1 + b.2 * t := by
    have := Rat.not_lt.mp c
    grind
  apply h.sh
  obtain ⟨lo, hh⟩ := ws
  have ea : lo = some a := ea
  have eb : hh = some b := eb
  subst ea eb
  show meet a b = some t
  have t0 := h.t0 hi
  have hd : b.2 < a.2 := by
    apply Classical.byContradiction
    intro c2
    have c2 : a.2 ≤ b.2 := Rat.not_lt.mp c2
    have := Rat.mul_le_mul_of_nonneg_right c2 (Rat.le_of_lt t0)
    grind
  unfold meet
  rw [if_pos hd]
  congr 1
  have hd0 : a.2 - b.2 ≠ 0 := by grind
  have : t * (a.2 - b.2) = b.1 - a.1 := by grind
  grind
end
end K57
/-! G6: the order is kept, what is seen are meetings -/
namespace K57
open PySem PySem.Spec PyProof.Rows L2 PD M
section
variable {row : List Ball} {ws : Ws} {t : Rat} {gs : List Grp} {r : List Ball}
theorem Came.ginv (h : Came row ws t gs r) (hi : RowIn row ws) : (∀ g ∈ gs, GOk (row.map fun b => b.go t) (wsGo ws t) g) ∧ (∀ j, j < row.length → (∃ g ∈ gs, g.first ≤ j ∧ j ≤ g.last) ∨ (endsAt (row.map fun b => b.go t) j = true ∧ (j = 0 ∨ endsAt (row.map fun b => b.go t) (j - 1) = true) ∧ ∃ b, (row.map fun b => b.go t)[j]? = some b ∧ comesTo b.s (wsGo ws t) (wallThere (wsGo ws t) b.p) = false)) := by
  have g := groups_ok (row.map fun b => b.go t) (wsGo ws t)
  rw [gUp_end (by rw [List.length_map]; exact hi.ne), ← h.eg, List.length_map] at g
  exact ⟨g.ok, g.all⟩
theorem Came.inc (h : Came row ws t gs r) : Inc (row.map fun b => b.go t).length gs := by
  rw [h.eg]
  exact groups_inc _ _
theorem Came.get (h : Came row ws t gs r) : r.length = row.length ∧ (∀ (j : Nat) (b : Ball), row[j]? = some b → (∀ (m : Nat) (g : Grp), gs[m]? = some g → j < g.first ∨ g.last < j) → r[j]? = some (b.go t)) ∧
    (∀ g ∈ gs, ∃ sp, together (slice (row.map fun b => b.go t) g) (wallNamed (wsGo ws t) g.wh) = some sp ∧ ∀ (j : Nat) (b : Ball), g.first ≤ j → j ≤ g.last → row[j]? = some b → ∃ v, sp[j - g.first]? = some v ∧ r[j]? = some ⟨(b.go t).p, v, b.w⟩) := by
  obtain ⟨h1, h2, h3⟩ := rebUp_get h.inc (Nat.le_refl _) h.rb
  refine ⟨by rw [h1, List.length_map], fun j b eb hj => ?_, fun g hg => ?_⟩
  · rw [h2 j fun m g _ e => hj m g e]
    exact go_get eb
  · obtain ⟨m, em⟩ := List.getElem?_of_mem hg
    obtain ⟨sp, e1, e2⟩ := h3 m g (List.getElem?_eq_some_iff.mp em).1 em
    refine ⟨sp, e1, fun j b g1 g2 eb => ?_⟩
    obtain ⟨v, e3, e4⟩ := e2 (j - g.first) (b.go t) (by omega) (by rw [show g.first + (j - g.first) = j by omega]; exact go_get eb)
    rw [show g.first + (j - g.first) = j by omega] at e4
    exact ⟨v, e3, e4⟩
/-- neighbours of a group come together -/
theorem Came.dec (h : Came row ws t gs r) (hi : RowIn row ws) {g : Grp} (hg : g ∈ gs) : ∀ (d k : Nat) (a b : Ball), g.first ≤ k → k + d + 1 ≤ g.last → row[k]? = some a → row[k + d + 1]? = some b → b.s < a.s ∧ (a.go t).p = (b.go t).p
  | 0, k, a, b, h1, h2, ea, eb => by
    have gk := ((h.ginv hi).1 g hg).run k h1 (by omega)
    obtain ⟨a', b', ea', eb', e⟩ := endsAt_false gk
    rw [go_get ea] at ea'
    rw [go_get eb] at eb'
    cases ea'
    cases eb'
    exact ⟨(h.step hi ea eb).2 e.symm, e.symm⟩
  | d + 1, k, a, b, h1, h2, ea, eb => by
    have hk := (List.getElem?_eq_some_iff.mp eb).1
    have ec : row[k + d + 1]? = some (row[k + d + 1]'(by omega)) := List.getElem?_eq_getElem (by omega)
    obtain ⟨i1, i2⟩ := Came.dec h hi hg d k a _ h1 (by omega) ea ec
    obtain ⟨j1, j2⟩ := Came.dec h hi hg 0 (k + d + 1) _ b (by omega) (by omega) ec eb
    exact ⟨by grind, i2.trans j2⟩
theorem Came.dec' (h : Came row ws t gs r) (hi : RowIn row ws) {g : Grp} (hg : g ∈ gs) {k j : Nat} {a b : Ball} (h1 : g.first ≤ k) (hkj : k < j) (h2 : j ≤ g.last) (ea : row[k]? = some a) (eb : row[j]? = some b) : b.s < a.s ∧ (a.go t).p = (b.go t).p :=
  Came.dec h hi hg (j - k - 1) k a b h1 (by omega) ea (by rw [show k + (j - k - 1) + 1 = j by omega]; exact eb)
theorem Came.gl (h : Came row ws t gs r) (hi : RowIn row ws) {g : Grp} (hg : g ∈ gs) : g.first ≤ g.last ∧ g.last < row.length := by
  have := (h.ginv hi).1 g hg
  have h2 := this.lt
  rw [List.length_map] at h2
  exact ⟨this.le, h2⟩
theorem slice_mem {R : List Ball} {g : Grp} {x : Ball} (hx : x ∈ slice R g) : ∃ j, g.first ≤ j ∧ j ≤ g.last ∧ R[j]? = some x := by
  obtain ⟨i, e⟩ := List.getElem?_of_mem hx
  have hi := (List.getElem?_eq_some_iff.mp e).1
  unfold slice at hi
  rw [List.length_take] at hi
  rw [slice_get (by omega)] at e
  exact ⟨g.first + i, by omega, by omega, e⟩
theorem Came.pw (h : Came row ws t gs r) (hi : RowIn row ws) {g : Grp} (hg : g ∈ gs) : (slice (row.map fun b => b.go t) g).Pairwise fun a b => b.s < a.s := by
  obtain ⟨g1, g2⟩ := h.gl hi hg
  rw [List.pairwise_iff_getElem]
  intro i j hi' hj hij
  have hl := slice_len (row := row.map fun b => b.go t) g1 (by rw [List.length_map]; exact g2)
  have e1 := slice_get (row := row.map fun b => b.go t) (g := g) (j := i) (by omega)
  have e2 := slice_get (row := row.map fun b => b.go t) (g := g) (j := j) (by omega)
  rw [List.getElem?_eq_getElem hi'] at e1
  rw [List.getElem?_eq_getElem hj] at e2
  obtain ⟨a, ea, qa⟩ := go_inv e1.symm
  obtain ⟨b, eb, qb⟩ := go_inv e2.symm
  rw [qa, qb]
  exact (h.dec' hi hg (show g.first ≤ g.first + i by omega) (show g.first + i < g.first + j by omega) (by omega) ea eb).1
theorem Came.spw (h : Came row ws t gs r) (hi : RowIn row ws) {g : Grp} (hg : g ∈ gs) {sp : List Rat} (e : together (slice (row.map fun b => b.go t) g) (wallNamed (wsGo ws t) g.wh) = some sp) : sp.Pairwise (· < ·) :=
  together_pw e (h.pw hi hg) fun b hb => by
    obtain ⟨j, _, _, ej⟩ := slice_mem hb
    obtain ⟨c, ec, rfl⟩ := go_inv ej
    exact (hi.w c (List.mem_of_getElem? ec)).1
/-- each ball behind it -/
theorem Came.ball (h : Came row ws t gs r) (hi : RowIn row ws) {j : Nat} {b : Ball} (eb : row[j]? = some b) : ∃ v, r[j]? = some ⟨(b.go t).p, v, b.w⟩ := by
  obtain ⟨_, h2, h3⟩ := h.get
  by_cases c : ∃ g ∈ gs, g.first ≤ j ∧ j ≤ g.last
  · obtain ⟨g, hg, g1, g2⟩ := c
    obtain ⟨sp, _, h4⟩ := h3 g hg
    obtain ⟨v, _, h5⟩ := h4 j b g1 g2 eb
    exact ⟨v, h5⟩
  · refine ⟨b.s, h2 j b eb fun m g e => ?_⟩
    have hg := List.mem_of_getElem? e
    by_cases h1 : j < g.first
    · exact .inl h1
    · right
      apply Nat.lt_of_not_le
      intro h6
      exact c ⟨g, hg, by omega, h6⟩
theorem Came.rowIn (h : Came row ws t gs r) (hi : RowIn row ws) : RowIn r (wsGo ws t) := by
  obtain ⟨hl, h2, h3⟩ := h.get
  obtain ⟨gok, gall⟩ := h.ginv hi
  have back : ∀ {j : Nat} {x : Ball}, r[j]? = some x → ∃ b v, row[j]? = some b ∧ x = ⟨(b.go t).p, v, b.w⟩ := fun {j x} e => by
    have hj := (List.getElem?_eq_some_iff.mp e).1
    have eb : row[j]? = some (row[j]'(by omega)) := List.getElem?_eq_getElem (by omega)
    obtain ⟨v, ev⟩ := h.ball hi eb
    rw [e] at ev
    exact ⟨_, v, eb, Option.some.inj ev⟩
  refine ⟨by rw [hl]; exact hi.ne, by rw [hl]; exact hi.le, fun x hx => ?_, fun k x y ex ey => ?_, fun a x ea ex => ?_, fun a x ea ex => ?_, fun a b ea eb => ?_⟩
  · obtain ⟨j, e⟩ := List.getElem?_of_mem hx
    obtain ⟨b, v, eb, rfl⟩ := back e
    exact hi.w b (List.mem_of_getElem? eb)
  · obtain ⟨a, v, ea, rfl⟩ := back ex
    obtain ⟨b, u, eb, rfl⟩ := back ey
    obtain ⟨s1, s2⟩ := h.step hi ea eb
    by_cases hp : (a.go t).p = (b.go t).p
    · right
      refine ⟨hp, ?_⟩
      have hk := (List.getElem?_eq_some_iff.mp ea).1
      have hen : endsAt (row.map fun b => b.go t) k = false := by
        rw [endsAt_of (go_get ea) (go_get eb), hp]
        simp
      rcases gall k hk with ⟨g, hg, g1, g2⟩ | ⟨g1, _⟩
      · have g3 : k ≠ g.last := fun e => by
          have := (gok g hg).en
          rw [← e, hen] at this
          cases this
        obtain ⟨sp, e1, e2⟩ := h3 g hg
        obtain ⟨v', e3, e4⟩ := e2 k a g1 g2 ea
        obtain ⟨u', e5, e6⟩ := e2 (k + 1) b (by omega) (by omega) eb
        rw [ex] at e4
        rw [ey] at e6
        have hv : v = v' := by have := Option.some.inj e4; simpa using this
        have hu : u = u' := by have := Option.some.inj e6; simpa using this
        subst hv hu
        have hpw := h.spw hi hg e1
        rw [List.pairwise_iff_getElem] at hpw
        obtain ⟨q1, q2⟩ := List.getElem?_eq_some_iff.mp e3
        obtain ⟨q3, q4⟩ := List.getElem?_eq_some_iff.mp e5
        have := hpw _ _ q1 q3 (by omega)
        rw [q2, q4] at this
        exact this
      · rw [hen] at g1
        cases g1
    · left
      show (a.go t).p < (b.go t).p
      grind
  · obtain ⟨b, v, eb, rfl⟩ := back ex
    obtain ⟨lo, hh⟩ := ws
    cases lo with
    | none => cases ea
    | some y =>
      cases ea
      obtain ⟨s1, s2⟩ := h.lo hi rfl eb
      by_cases hp : y.1 + y.2 * t = (b.go t).p
      · right
        refine ⟨hp, ?_⟩
        have hk := (List.getElem?_eq_some_iff.mp eb).1
        have hbs := s2 hp
        have wt0 : wallThere (wsGo (some y, hh) t) (b.go t).p = "low" := by
          unfold wallThere
          rw [if_pos]
          show decide (y.1 + y.2 * t = (b.go t).p) = true
          exact decide_eq_true hp
        rcases gall 0 hk with ⟨g, hg, g1, g2⟩ | ⟨_, _, b', eb', hc⟩
        · obtain ⟨sp, e1, e2⟩ := h3 g hg
          obtain ⟨v', e3, e4⟩ := e2 0 b g1 g2 eb
          rw [ex] at e4
          have hv : v = v' := by have := Option.some.inj e4; simpa using this
          subst hv
          obtain ⟨bl, ebl, hwh⟩ := (gok g hg).wh
          obtain ⟨cl, ecl, rfl⟩ := go_inv ebl
          have hpl : (cl.go t).p = (b.go t).p := by
            by_cases h0 : g.last = 0
            · rw [h0, eb] at ecl
              cases ecl
              rfl
            · exact (h.dec' hi hg (show g.first ≤ 0 by omega) (show 0 < g.last by omega) (Nat.le_refl _) eb ecl).2.symm
          rw [hpl, wt0] at hwh
          rw [hwh] at e1
          have e1 : together (slice (row.map fun b => b.go t) g) (some (goOn y t)) = some sp := e1
          refine together_ge e1 (fun z hz => ?_) v (List.mem_of_getElem? e3)
          obtain ⟨j, j1, j2, ej⟩ := slice_mem hz
          obtain ⟨c, ec, rfl⟩ := go_inv ej
          show c.s ≤ y.2
          by_cases h0 : j = 0
          · subst h0
            rw [eb] at ec
            cases ec
            exact hbs
          · have := (h.dec' hi hg (show g.first ≤ 0 by omega) (show 0 < j by omega) j2 eb ec).1
            grind
        · rw [go_get eb] at eb'
          cases eb'
          rw [wt0] at hc
          have hnot : ∀ g ∈ gs, ¬ (g.first ≤ 0 ∧ 0 ≤ g.last) ∨ True := fun _ _ => .inr trivial
          by_cases cg : ∃ g ∈ gs, g.first ≤ 0 ∧ 0 ≤ g.last
          · obtain ⟨g, hg, g1, g2⟩ := cg
            obtain ⟨sp, e1, e2⟩ := h3 g hg
            obtain ⟨v', e3, e4⟩ := e2 0 b g1 g2 eb
            rw [ex] at e4
            have hv : v = v' := by have := Option.some.inj e4; simpa using this
            subst hv
            obtain ⟨bl, ebl, hwh⟩ := (gok g hg).wh
            obtain ⟨cl, ecl, rfl⟩ := go_inv ebl
            have hpl : (cl.go t).p = (b.go t).p := by
              by_cases h0 : g.last = 0
              · rw [h0, eb] at ecl
                cases ecl
                rfl
              · exact (h.dec' hi hg (show g.first ≤ 0 by omega) (show 0 < g.last by omega) (Nat.le_refl _) eb ecl).2.symm
            rw [hpl, wt0] at hwh
            rw [hwh] at e1
            have e1 : together (slice (row.map fun b => b.go t) g) (some (goOn y t)) = some sp := e1
            refine together_ge e1 (fun z hz => ?_) v (List.mem_of_getElem? e3)
            obtain ⟨j, j1, j2, ej⟩ := slice_mem hz
            obtain ⟨c, ec, rfl⟩ := go_inv ej
            show c.s ≤ y.2
            by_cases h0 : j = 0
            · subst h0
              rw [eb] at ec
              cases ec
              exact hbs
            · have := (h.dec' hi hg (show g.first ≤ 0 by omega) (show 0 < j by omega) j2 eb ec).1
              grind
          · have er := h2 0 b eb fun m g e => by
              have hg := List.mem_of_getElem? e
              by_cases q1 : 0 < g.first
              · exact .inl q1
              · exact absurd ⟨g, hg, by omega, Nat.zero_le _⟩ cg
            rw [ex] at er
            have hv : v = b.s := by have := Option.some.inj er; simpa [Ball.go] using this
            have hc : below b.s (some (goOn y t)) = false := by
              have : comesTo (b.go t).s (wsGo (some y, hh) t) "low" = below b.s (some (goOn y t)) := rfl
              rw [← this]
              exact hc
            have hc2 : ¬ b.s < y.2 := of_decide_eq_false hc
            show y.2 ≤ v
            rw [hv]
            exact Rat.not_lt.mp hc2
      · left
        show y.1 + y.2 * t < (b.go t).p
        grind
  · rw [hl] at ex
    obtain ⟨b, v, eb, rfl⟩ := back ex
    obtain ⟨lo, hh⟩ := ws
    cases hh with
    | none => cases ea
    | some y =>
      cases ea
      obtain ⟨s1, s2⟩ := h.hi hi rfl eb
      by_cases hp : (b.go t).p = y.1 + y.2 * t
      · right
        refine ⟨hp, ?_⟩
        have hk := (List.getElem?_eq_some_iff.mp eb).1
        have hbs := s2 hp
        have wt0 : wallThere (wsGo (lo, some y) t) (b.go t).p = "high" := by
          unfold wallThere
          have h1 : atW (wsGo (lo, some y) t).1 (b.go t).p = false := by
            cases lo with
            | none => rfl
            | some z =>
              have := h.lh hi (a := z) (b := y) rfl rfl
              show decide (z.1 + z.2 * t = (b.go t).p) = false
              refine decide_eq_false fun e => ?_
              rw [e, hp] at this
              exact absurd this Rat.lt_irrefl
          rw [if_neg (by rw [h1]; decide), if_pos]
          show decide (y.1 + y.2 * t = (b.go t).p) = true
          exact decide_eq_true hp.symm
        by_cases cg : ∃ g ∈ gs, g.first ≤ row.length - 1 ∧ row.length - 1 ≤ g.last
        · obtain ⟨g, hg, g1, g2⟩ := cg
          obtain ⟨q1, q2⟩ := h.gl hi hg
          have hgl : g.last = row.length - 1 := by omega
          obtain ⟨sp, e1, e2⟩ := h3 g hg
          obtain ⟨v', e3, e4⟩ := e2 (row.length - 1) b g1 g2 eb
          rw [ex] at e4
          have hv : v = v' := by have := Option.some.inj e4; simpa using this
          subst hv
          obtain ⟨bl, ebl, hwh⟩ := (gok g hg).wh
          obtain ⟨cl, ecl, rfl⟩ := go_inv ebl
          rw [hgl, eb] at ecl
          cases ecl
          rw [wt0] at hwh
          rw [hwh] at e1
          have e1 : together (slice (row.map fun b => b.go t) g) (some (goOn y t)) = some sp := e1
          refine together_le e1 (fun z hz => ?_) v (List.mem_of_getElem? e3)
          obtain ⟨j, j1, j2, ej⟩ := slice_mem hz
          obtain ⟨c, ec, rfl⟩ := go_inv ej
          show y.2 ≤ c.s
          by_cases h0 : j = row.length - 1
          · subst h0
            rw [eb] at ec
            cases ec
            exact hbs
          · have := (h.dec' hi hg j1 (show j < row.length - 1 by omega) (by omega) ec eb).1
            grind
        · rcases gall (row.length - 1) hk with hg | ⟨_, _, b', eb', hc⟩
          · exact absurd hg cg
          · rw [go_get eb] at eb'
            cases eb'
            rw [wt0] at hc
            have er := h2 (row.length - 1) b eb fun m g e => by
              have hg := List.mem_of_getElem? e
              by_cases q1 : row.length - 1 < g.first
              · exact .inl q1
              · right
                apply Nat.lt_of_not_le
                intro q3
                exact cg ⟨g, hg, by omega, q3⟩
            rw [ex] at er
            have hv : v = b.s := by have := Option.some.inj er; simpa [Ball.go] using this
            have hc : above b.s (some (goOn y t)) = false := hc
            have hc2 : ¬ y.2 < b.s := of_decide_eq_false hc
            show v ≤ y.2
            rw [hv]
            exact Rat.not_lt.mp hc2
      · left
        show (b.go t).p < y.1 + y.2 * t
        grind
  · obtain ⟨lo, hh⟩ := ws
    cases lo with
    | none => cases ea
    | some x =>
      cases hh with
      | none => cases eb
      | some y =>
        cases ea
        cases eb
        exact h.lh hi rfl rfl
theorem Came.weights (h : Came row ws t gs r) (hi : RowIn row ws) : r.map Ball.w = row.map Ball.w := by
  obtain ⟨hl, _, _⟩ := h.get
  refine List.ext_getElem? fun k => ?_
  rw [List.getElem?_map, List.getElem?_map]
  by_cases hk : k < row.length
  · have eb : row[k]? = some (row[k]'hk) := List.getElem?_eq_getElem hk
    obtain ⟨v, ev⟩ := h.ball hi eb
    rw [ev, eb]
    rfl
  · rw [List.getElem?_eq_none (by omega), List.getElem?_eq_none (by omega)]
/-- what is seen are meetings -/
theorem Came.seen (h : Came row ws t gs r) (hi : RowIn row ws) (hs : ∀ b ∈ row, Sm 700 b.s) : ∀ s ∈ seenUp row r gs gs.length, MeetOf (row.map Ball.w) s ∧ s.j = s.i + 1 := by
  obtain ⟨hl, h2, h3⟩ := h.get
  obtain ⟨gok, gall⟩ := h.ginv hi
  have key : ∀ k, ∀ s ∈ seenUp row r gs k, ∃ g ∈ gs, s ∈ seenAt row r g := fun k => by
    induction k with
    | zero => intro s hs; cases hs
    | succ k ih =>
      intro s hs
      unfold seenUp at hs
      rcases List.mem_append.mp hs with hs | hs
      · exact ih s hs
      · cases e : gs[k]? with
        | none => rw [e] at hs; cases hs
        | some g => rw [e] at hs; exact ⟨g, List.mem_of_getElem? e, hs⟩
  intro s hs'
  obtain ⟨g, hg, hsg⟩ := key _ s hs'
  unfold seenAt at hsg
  split at hsg
  · rename_i c
    obtain ⟨c1, c2⟩ := c
    obtain ⟨g1, g2⟩ := h.gl hi hg
    split at hsg
    · rename_i a b x y ea eb ex ey
      rw [List.mem_singleton.mp hsg]
      refine ⟨?_, c2⟩
      obtain ⟨sp, e1, e2⟩ := h3 g hg
      obtain ⟨v, e3, e4⟩ := e2 g.first a (Nat.le_refl _) g1 ea
      obtain ⟨u, e5, e6⟩ := e2 g.last b g1 (Nat.le_refl _) eb
      rw [ex] at e4
      rw [ey] at e6
      have hx : x.s = v := by rw [Option.some.inj e4]
      have hy : y.s = u := by rw [Option.some.inj e6]
      have hslice : slice (row.map fun b => b.go t) g = [a.go t, b.go t] := by
        unfold slice
        have hd : (row.map fun b => b.go t).drop g.first = a.go t :: b.go t :: (row.map fun b => b.go t).drop (g.first + 2) := by
          have ea' := go_get (t := t) ea
          have eb' := go_get (t := t) eb
          rw [c2] at eb'
          obtain ⟨q1, q2⟩ := List.getElem?_eq_some_iff.mp ea'
          obtain ⟨q3, q4⟩ := List.getElem?_eq_some_iff.mp eb'
          rw [List.drop_eq_getElem_cons q1, q2, List.drop_eq_getElem_cons q3, q4]
        rw [hd, c2, show g.first + 1 + 1 - g.first = 2 by omega]
        rfl
      rw [c1, hslice] at e1
      have e1 : together [a.go t, b.go t] none = some sp := e1
      have hsp : sp = [two1 (a.go t) (b.go t), two2 (a.go t) (b.go t)] := (Option.some.inj e1).symm
      rw [hsp] at e3 e5
      rw [Nat.sub_self] at e3
      rw [c2, show g.first + 1 - g.first = 1 by omega] at e5
      have hv : two1 (a.go t) (b.go t) = v := Option.some.inj e3
      have hu : two2 (a.go t) (b.go t) = u := Option.some.inj e5
      have hab := (h.dec' hi hg (Nat.le_refl _) (show g.first < g.last by omega) (Nat.le_refl _) ea eb).1
      have wa := hi.w a (List.mem_of_getElem? ea)
      have wb := hi.w b (List.mem_of_getElem? eb)
      refine ⟨a.w, b.w, by rw [List.getElem?_map, ea]; rfl, by rw [List.getElem?_map, eb]; rfl, wa.1, by omega, wb.1, by omega, ?_, hs a (List.mem_of_getElem? ea), hs b (List.mem_of_getElem? eb), ?_, ?_⟩
      · show a.s ≠ b.s
        intro e
        rw [e] at hab
        exact absurd hab Rat.lt_irrefl
      · show x.s = a.s - 2 * (b.w : Rat) * (a.s - b.s) / ((a.w : Rat) + (b.w : Rat))
        rw [hx, ← hv]
        unfold two1
        rw [Rat.intCast_mul, Rat.intCast_add, cast_nat, cast_nat]
        rfl
      · show y.s = b.s + 2 * (a.w : Rat) * (a.s - b.s) / ((a.w : Rat) + (b.w : Rat))
        rw [hy, ← hu]
        unfold two2
        rw [Rat.intCast_mul, Rat.intCast_add, cast_nat, cast_nat]
        rfl
    · cases hsg
  · cases hsg
end
end K57
/-! G7: sizes -/
namespace K57
open PySem PySem.Spec PyProof.Rows L2 PD M
theorem ratz {D : Nat} (h : 0 < D) : ((D : Nat) : Rat) ≠ 0 := pos_ne (natr_pos h)
theorem On.eq {D B : Nat} {x : Rat} (h : On D B x) : ∃ m : Int, x = (m : Rat) / (D : Rat) ∧ m.natAbs < B := by
  obtain ⟨m, e, hm⟩ := h
  exact ⟨m, by rw [e, Rat.divInt_eq_div, cast_nat], hm⟩
theorem On.mk {D B : Nat} {x : Rat} {m : Int} (e : x = (m : Rat) / (D : Rat)) (hm : m.natAbs < B) : On D B x := ⟨m, by rw [e, Rat.divInt_eq_div, cast_nat], hm⟩
structure Siz (a c q x : Nat) (row : List Ball) (ws : Ws) : Prop where
  ex : ∃ D Q : Nat, 0 < D ∧ 0 < Q ∧ D < 2 ^ a ∧ Q < 2 ^ q ∧ (∀ th ∈ things row ws, On D (2 ^ c) th.2) ∧ (∀ th ∈ things row ws, On Q (2 ^ x) th.1)
theorem On.sm2 {D a c n : Nat} {x : Rat} (h : On D (2 ^ c) x) (hD : 0 < D) (hD2 : D < 2 ^ a) (ha : a ≤ n) (hc : c ≤ n) : Sm n x := by
  obtain ⟨m, e, hm⟩ := h
  rw [e]
  exact divInt_small (by omega) (Nat.lt_of_lt_of_le hm (Nat.pow_le_pow_right (by decide) hc)) (Nat.lt_of_lt_of_le (by omega) (Nat.pow_le_pow_right (by decide) ha))
theorem Siz.sz {a c q x : Nat} {row : List Ball} {ws : Ws} (h : Siz a c q x row ws) (h1 : a ≤ 620) (h2 : c ≤ 620) (h3 : q ≤ 2100) (h4 : x ≤ 2100) (h5 : x + 1 + a ≤ 2600) (h6 : c + 1 + q ≤ 2600) : Sz (things row ws) := by
  obtain ⟨D, Q, hD, hQ, dD, dQ, hs, hp⟩ := h.ex
  refine ⟨fun th ht => (hp th ht).sm2 hQ dQ h3 h4, fun th ht => (hs th ht).sm2 hD dD h1 h2, fun u hu v hv => ?_⟩
  obtain ⟨m, em, hm⟩ := (On.sub hQ (hp v hv) (hp u hu)).eq
  obtain ⟨n, en, hn⟩ := (On.sub hD (hs u hu) (hs v hv)).eq
  have zD := ratz hD
  have zQ := ratz hQ
  by_cases h0 : n = 0
  · subst h0
    have : u.2 - v.2 = 0 := by
      rw [en]
      show ((0 : Int) : Rat) / (D : Rat) = 0
      have : ((0 : Int) : Rat) = 0 := rfl
      rw [this]
      grind
    rw [this]
    have e0 : (v.1 - u.1) / 0 = 0 := by rw [Rat.div_def, Rat.inv_zero, Rat.mul_zero]
    rw [e0]
    exact sm_zero (by decide)
  · have zn : ((n : Int) : Rat) ≠ 0 := by
      intro e
      exact h0 (by exact_mod_cast e)
    have e : (v.1 - u.1) / (u.2 - v.2) = Rat.divInt (m * (D : Int)) (n * (Q : Int)) := by
      rw [em, en, Rat.divInt_eq_div, Rat.intCast_mul, Rat.intCast_mul, cast_nat, cast_nat]
      grind
    rw [e]
    refine divInt_small (Int.mul_ne_zero h0 (by omega)) ?_ ?_
    · rw [Int.natAbs_mul]
      have := mul_lt_pow (a := m.natAbs) (b := D) (m := x + 1) (n := a) (by rw [Nat.pow_succ]; omega) dD
      exact Nat.lt_of_lt_of_le this (Nat.pow_le_pow_right (by decide) h5)
    · rw [Int.natAbs_mul]
      have := mul_lt_pow (a := n.natAbs) (b := Q) (m := c + 1) (n := q) (by rw [Nat.pow_succ]; omega) dQ
      exact Nat.lt_of_lt_of_le this (Nat.pow_le_pow_right (by decide) h6)
/-- the product of neighbours' weights' sums -/
def wprod : List Ball → Nat
  | a :: b :: r => (a.w + b.w) * wprod (b :: r)
  | _ => 1
theorem wprod_lt : ∀ {l : List Ball}, (∀ b ∈ l, 0 < b.w ∧ b.w ≤ 1000) → 0 < wprod l ∧ wprod l < 2 ^ (11 * (l.length - 1) + 1)
  | [], _ => ⟨Nat.one_pos, show 1 < 2 ^ 1 by decide⟩
  | [a], _ => ⟨Nat.one_pos, show 1 < 2 ^ 1 by decide⟩
  | a :: b :: r, h => by
    obtain ⟨i1, i2⟩ := wprod_lt (l := b :: r) fun x hx => h x (List.mem_cons_of_mem _ hx)
    have ha := h a List.mem_cons_self
    have hb := h b (List.mem_cons_of_mem _ List.mem_cons_self)
    refine ⟨Nat.mul_pos (by omega) i1, ?_⟩
    have := mul_lt_pow (a := a.w + b.w) (b := wprod (b :: r)) (m := 11) (show a.w + b.w < 2 ^ 11 by omega) i2
    refine Nat.lt_of_lt_of_le this (Nat.pow_le_pow_right (by decide) ?_)
    simp only [List.length_cons]
    omega
theorem wprod_dvd : ∀ {l : List Ball} {k : Nat} {a b : Ball}, l[k]? = some a → l[k + 1]? = some b → (a.w + b.w) ∣ wprod l
  | [], k, a, b, ea, _ => by cases ea
  | [x], k, a, b, _, eb => by cases eb
  | x :: y :: r, 0, a, b, ea, eb => by
    cases ea
    cases eb
    exact Nat.dvd_mul_right ..
  | x :: y :: r, k + 1, a, b, ea, eb => Nat.dvd_trans (wprod_dvd (l := y :: r) (k := k) (by simpa using ea) (by simpa using eb)) (Nat.dvd_mul_left ..)
end K57
/-! G8: sizes behind a coming -/
namespace K57
open PySem PySem.Spec PyProof.Rows L2 PD M
theorem On.lift {D B P : Nat} {x : Rat} (h : On D B x) (hD : 0 < D) (hP : 0 < P) : On (D * P) (B * P) x := by
  obtain ⟨m, e, hm⟩ := h.eq
  refine On.mk (m := m * (P : Int)) ?_ ?_
  · rw [e, Rat.intCast_mul, cast_nat, Rat.natCast_mul]
    have := ratz hD
    have := ratz hP
    grind
  · rw [Int.natAbs_mul]
    exact Nat.mul_lt_mul_of_pos_right hm (by omega)
theorem things_mem {row : List Ball} {ws : Ws} {a : Th} : a ∈ things row ws ↔ ws.1 = some a ∨ (∃ b ∈ row, b.th = a) ∨ ws.2 = some a := by
  unfold things
  rw [List.mem_append, List.mem_append, List.mem_map, Option.mem_toList, Option.mem_toList, or_assoc]
theorem two_eqA (a1 a2 a3 d w k y : Rat) (hd : d ≠ 0) (hw : w ≠ 0) (hk : k ≠ 0) : a1 / d - 2 * y * (a2 / d - a3 / d) / w = (a1 * w - 2 * y * (a2 - a3)) * k / (d * (w * k)) := by
  have h1 : (a1 * w - 2 * y * (a2 - a3)) * k / (d * (w * k)) = (a1 * w - 2 * y * (a2 - a3)) / (d * w) := by grind
  rw [h1]
  grind
theorem two_eqB (a1 a2 a3 d w k y : Rat) (hd : d ≠ 0) (hw : w ≠ 0) (hk : k ≠ 0) : a1 / d + 2 * y * (a2 / d - a3 / d) / w = (a1 * w + 2 * y * (a2 - a3)) * k / (d * (w * k)) := by
  have h1 : (a1 * w + 2 * y * (a2 - a3)) * k / (d * (w * k)) = (a1 * w + 2 * y * (a2 - a3)) / (d * w) := by grind
  rw [h1]
  grind
/-- the speed that two leave each other with -/
theorem on_two {D B P W y : Nat} {u v z : Rat} (hD : 0 < D) (hu : On D B u) (hv : On D B v) (hW : 0 < W) (hy : y ≤ W) (hz : On D B z) (hP : W ∣ P) (hP0 : 0 < P) (e : z = u ∨ z = v) : On (D * P) (5 * B * P) (z - 2 * (y : Rat) * (u - v) / (W : Rat)) ∧ On (D * P) (5 * B * P) (z + 2 * (y : Rat) * (u - v) / (W : Rat)) := by
  obtain ⟨k, rfl⟩ := hP
  have hk : 0 < k := Nat.pos_of_mul_pos_left hP0
  obtain ⟨mu, eu, hmu⟩ := hu.eq
  obtain ⟨mv, ev, hmv⟩ := hv.eq
  obtain ⟨mz, ez, hmz⟩ := hz.eq
  have zD := ratz hD
  have zW := ratz hW
  have zk := ratz hk
  have hb : ((2 * (y : Int) * (mu - mv))).natAbs ≤ W * (4 * B) := by
    rw [Int.natAbs_mul, Int.natAbs_mul]
    have h1 : (mu - mv).natAbs ≤ 2 * B := by omega
    have h2 : (2 : Int).natAbs * (y : Int).natAbs ≤ 2 * W := by
      show 2 * (y : Int).natAbs ≤ 2 * W
      omega
    calc (2 : Int).natAbs * (y : Int).natAbs * (mu - mv).natAbs ≤ 2 * W * (2 * B) := Nat.mul_le_mul h2 h1
      _ = W * (4 * B) := by
        rw [Nat.mul_comm 2 W, Nat.mul_assoc, ← Nat.mul_assoc 2 2 B]
  have hbz : (mz * (W : Int)).natAbs < W * B := by
    rw [Int.natAbs_mul, Nat.mul_comm W B]
    exact Nat.mul_lt_mul_of_pos_right hmz (by omega)
  have hB : W * (5 * B) = W * (4 * B) + W * B := by
    rw [← Nat.mul_add]
    congr 1
    omega
  have fin : ∀ n : Int, n.natAbs < W * (5 * B) → (n * (k : Int)).natAbs < 5 * B * (W * k) := fun n hn => by
    rw [Int.natAbs_mul]
    have := Nat.mul_lt_mul_of_pos_right hn hk
    have e : W * (5 * B) * k = 5 * B * (W * k) := by ac_rfl
    rw [e] at this
    exact this
  refine ⟨On.mk (m := (mz * (W : Int) - 2 * (y : Int) * (mu - mv)) * (k : Int)) ?_ (fin _ (by omega)), On.mk (m := (mz * (W : Int) + 2 * (y : Int) * (mu - mv)) * (k : Int)) ?_ (fin _ (by omega))⟩
  · rw [ez, eu, ev]
    simp only [Rat.intCast_mul, Rat.intCast_sub, Rat.natCast_mul, cast_nat]
    have e2 : ((2 : Int) : Rat) = 2 := rfl
    rw [e2]
    exact two_eqA _ _ _ _ _ _ _ zD zW zk
  · rw [ez, eu, ev]
    simp only [Rat.intCast_mul, Rat.intCast_sub, Rat.intCast_add, Rat.natCast_mul, cast_nat]
    have e2 : ((2 : Int) : Rat) = 2 := rfl
    rw [e2]
    exact two_eqB _ _ _ _ _ _ _ zD zW zk
end K57
/-! G9: sizes behind a coming, all together -/
namespace K57
open PySem PySem.Spec PyProof.Rows L2 PD M
theorem goOn_speed {ws : Ws} {t : Rat} {x : Str} {w : Th} (h : wallNamed (wsGo ws t) x = some w) : ∃ w0, (ws.1 = some w0 ∨ ws.2 = some w0) ∧ w.2 = w0.2 := by
  obtain ⟨lo, hh⟩ := ws
  unfold wallNamed at h
  split at h
  · cases lo with
    | none => cases h
    | some y => cases h; exact ⟨y, .inl rfl, rfl⟩
  · split at h
    · cases hh with
      | none => cases h
      | some y => cases h; exact ⟨y, .inr rfl, rfl⟩
    · cases h
section
variable {row : List Ball} {ws : Ws} {t : Rat} {gs : List Grp} {r : List Ball}
theorem Came.speed (h : Came row ws t gs r) (hi : RowIn row ws) {D B : Nat} (hD : 0 < D) (hs : ∀ th ∈ things row ws, On D B th.2) {x : Ball} (hx : x ∈ r) : On (D * wprod row) (5 * B * wprod row) x.s := by
  obtain ⟨hl, h2, h3⟩ := h.get
  obtain ⟨j, ej⟩ := List.getElem?_of_mem hx
  have hj := (List.getElem?_eq_some_iff.mp ej).1
  have eb : row[j]? = some (row[j]'(by omega)) := List.getElem?_eq_getElem (by omega)
  generalize row[j]'(by omega) = b at eb
  have hP := (wprod_lt hi.w).1
  have hball : ∀ {k : Nat} {c : Ball}, row[k]? = some c → On D B c.s := fun e => hs _ (things_mem.mpr (.inr (.inl ⟨_, List.mem_of_getElem? e, rfl⟩)))
  have lift5 : ∀ {C : Nat} {v : Rat}, On D C v → C ≤ 5 * B → On (D * wprod row) (5 * B * wprod row) v := fun hv hc => (hv.lift hD hP).mono (Nat.mul_le_mul_right _ hc)
  by_cases c : ∃ g ∈ gs, g.first ≤ j ∧ j ≤ g.last
  · obtain ⟨g, hg, g1, g2⟩ := c
    obtain ⟨q1, q2⟩ := h.gl hi hg
    obtain ⟨sp, e1, e2⟩ := h3 g hg
    obtain ⟨v, e3, e4⟩ := e2 j b g1 g2 eb
    rw [ej] at e4
    have hv : x.s = v := by rw [Option.some.inj e4]
    rw [hv]
    have hvm := List.mem_of_getElem? e3
    rcases together_cases e1 with ⟨a', b', hsl, _, rfl⟩ | ⟨_, rfl⟩
    · have hlen : (slice (row.map fun b => b.go t) g).length = 2 := by rw [hsl]; rfl
      rw [slice_len q1 (by rw [List.length_map]; exact q2)] at hlen
      have s0 := slice_get (row := row.map fun b => b.go t) (g := g) (j := 0) (by omega)
      have s1 := slice_get (row := row.map fun b => b.go t) (g := g) (j := 1) (by omega)
      rw [hsl] at s0 s1
      obtain ⟨a, ea, rfl⟩ := go_inv s0.symm
      obtain ⟨d, ed, rfl⟩ := go_inv s1.symm
      have ha := hball ea
      have hd := hball ed
      have wa := hi.w a (List.mem_of_getElem? ea)
      have wd := hi.w d (List.mem_of_getElem? ed)
      have hdv := wprod_dvd (l := row) (k := g.first) (a := a) (b := d) ea ed
      rcases List.mem_cons.mp hvm with rfl | hvm
      · have := (on_two (y := d.w) hD ha hd (show 0 < a.w + d.w by omega) (by omega) ha hdv hP (.inl rfl)).1
        have e : two1 (a.go t) (d.go t) = a.s - 2 * (d.w : Rat) * (a.s - d.s) / ((a.w + d.w : Nat) : Rat) := by
          unfold two1
          rw [Rat.intCast_mul, Rat.intCast_add, cast_nat, cast_nat, Rat.natCast_add]
          rfl
        rw [e]
        exact this
      · rw [List.mem_singleton.mp hvm]
        have := (on_two (y := a.w) hD ha hd (show 0 < a.w + d.w by omega) (by omega) hd hdv hP (.inr rfl)).2
        have e : two2 (a.go t) (d.go t) = d.s + 2 * (a.w : Rat) * (a.s - d.s) / ((a.w + d.w : Nat) : Rat) := by
          unfold two2
          rw [Rat.intCast_mul, Rat.intCast_add, cast_nat, cast_nat, Rat.natCast_add]
          rfl
        rw [e]
        exact this
    · have hvb := mem_rise.mp hvm
      have hmem : ∀ z ∈ (slice (row.map fun b => b.go t) g).map Ball.s, On D B z := fun z hz => by
        obtain ⟨y, hy, rfl⟩ := List.mem_map.mp hz
        obtain ⟨k, _, _, ek⟩ := slice_mem hy
        obtain ⟨c, ec, rfl⟩ := go_inv ek
        exact (hball ec : On D B c.s)
      cases hwl : wallNamed (wsGo ws t) g.wh with
      | none =>
        rw [hwl] at hvb
        exact lift5 (hmem v hvb) (by omega)
      | some w =>
        rw [hwl] at hvb
        obtain ⟨z, hz, rfl⟩ := List.mem_map.mp hvb
        obtain ⟨w0, hw0, ew⟩ := goOn_speed hwl
        have hw : On D B w0.2 := hs _ (things_mem.mpr (hw0.elim .inl fun h => .inr (.inr h)))
        have h22 : (2 : Rat) * w.2 - z = w0.2 + w0.2 - z := by rw [ew]; grind
        rw [h22]
        exact lift5 ((hw.add hD hw).sub hD (hmem z hz)) (by omega)
  · have er := h2 j b eb fun m g e => by
      have hg := List.mem_of_getElem? e
      by_cases h1 : j < g.first
      · exact .inl h1
      · right
        apply Nat.lt_of_not_le
        intro h6
        exact c ⟨g, hg, by omega, h6⟩
    rw [ej] at er
    have hv : x.s = b.s := by rw [Option.some.inj er]; rfl
    rw [hv]
    exact lift5 (hball eb) (by omega)
theorem pow_le2 {m n : Nat} (h : m ≤ n) : 2 ^ m ≤ 2 ^ n := Nat.pow_le_pow_right (by decide) h
theorem Came.siz (h : Came row ws t gs r) (hi : RowIn row ws) {a c q x : Nat} (hz : Siz a c q x row ws) : Siz (a + 45) (c + 48) (q + c + 1) (x + c + 2) r (wsGo ws t) := by
  obtain ⟨D, Q, hD, hQ, dD, dQ, hs, hp⟩ := hz.ex
  obtain ⟨hl, _, _⟩ := h.get
  obtain ⟨hP, hP2⟩ := wprod_lt hi.w
  have hP3 : wprod row < 2 ^ 45 := Nat.lt_of_lt_of_le hP2 (pow_le2 (by have := hi.le; omega))
  -- the moment
  obtain ⟨mi, u, v, _, eu, ev, em⟩ := leastUp_from h.le
  have hu := List.mem_of_getElem? eu
  have hv := List.mem_of_getElem? ev
  obtain ⟨hlt, et⟩ := meet_some em
  obtain ⟨m, e1, hm⟩ := (On.sub hQ (hp v hv) (hp u hu)).eq
  obtain ⟨n, e2, hn⟩ := (On.sub hD (hs u hu) (hs v hv)).eq
  have zD := ratz hD
  have zQ := ratz hQ
  have hd0 : u.2 - v.2 ≠ 0 := by grind
  have n0 : n ≠ 0 := fun e => by
    rw [e] at e2
    apply hd0
    rw [e2]
    have : ((0 : Int) : Rat) = 0 := rfl
    rw [this]
    grind
  have zn : ((n : Int) : Rat) ≠ 0 := by
    intro e
    exact n0 (by exact_mod_cast e)
  have hN : 0 < n.natAbs * Q := Nat.mul_pos (by omega) hQ
  have place : ∀ th ∈ things row ws, On (n.natAbs * Q) (2 ^ (x + c + 2)) (th.1 + th.2 * t) := fun th ht => by
    obtain ⟨m0, f1, hm0⟩ := (hp th ht).eq
    obtain ⟨k0, f2, hk0⟩ := (hs th ht).eq
    have key : th.1 + th.2 * t = ((m0 * n + k0 * m : Int) : Rat) / ((n : Rat) * (Q : Rat)) := by
      rw [et, e1, e2, f1, f2, Rat.intCast_add, Rat.intCast_mul, Rat.intCast_mul]
      generalize (m0 : Rat) = b1
      generalize (k0 : Rat) = b2
      generalize (m : Rat) = b3
      have : b3 / (Q : Rat) / ((n : Rat) / (D : Rat)) = b3 * (D : Rat) / ((n : Rat) * (Q : Rat)) := by grind
      rw [this]
      grind
    have hb : (m0 * n + k0 * m).natAbs < 2 ^ (x + c + 2) := by
      have h1 : (m0 * n).natAbs < 2 ^ (x + c + 1) := by
        rw [Int.natAbs_mul]
        exact Nat.lt_of_lt_of_le (mul_lt_pow (m := x) (n := c + 1) hm0 (by rw [Nat.pow_succ]; omega)) (pow_le2 (by omega))
      have h2 : (k0 * m).natAbs < 2 ^ (x + c + 1) := by
        rw [Int.natAbs_mul]
        exact Nat.lt_of_lt_of_le (mul_lt_pow (m := c) (n := x + 1) hk0 (by rw [Nat.pow_succ]; omega)) (pow_le2 (by omega))
      exact Nat.lt_of_le_of_lt (Int.natAbs_add_le _ _) (add_lt_pow h1 h2)
    rcases Int.lt_or_gt_of_ne n0 with hneg | hpos
    · refine On.mk (m := -(m0 * n + k0 * m)) ?_ (by rw [Int.natAbs_neg]; exact hb)
      have e3 : ((n.natAbs : Nat) : Rat) = -(n : Rat) := by
        rw [← cast_nat, show ((n.natAbs : Nat) : Int) = -n by omega, Rat.intCast_neg]
      rw [key, Rat.natCast_mul, e3, Rat.intCast_neg]
      grind
    · refine On.mk (m := m0 * n + k0 * m) ?_ hb
      have e3 : ((n.natAbs : Nat) : Rat) = (n : Rat) := by
        rw [← cast_nat, show ((n.natAbs : Nat) : Int) = n by omega]
      rw [key, Rat.natCast_mul, e3]
  have wall : ∀ {o : Wl} {th : Th}, wlGo o t = some th → ∃ w0, o = some w0 ∧ th = goOn w0 t := fun {o th} e => by
    cases o with
    | none => cases e
    | some w0 => cases e; exact ⟨w0, rfl, rfl⟩
  have src : ∀ th ∈ things r (wsGo ws t), ∃ th0 ∈ things row ws, th.1 = th0.1 + th0.2 * t ∧ (th.2 = th0.2 ∨ ∃ y ∈ r, th.2 = y.s) := fun th ht => by
    rcases things_mem.mp ht with e | ⟨y, hy, rfl⟩ | e
    · obtain ⟨w0, e0, rfl⟩ := wall e
      exact ⟨w0, things_mem.mpr (.inl e0), rfl, .inl rfl⟩
    · obtain ⟨j, ej⟩ := List.getElem?_of_mem hy
      have hj := (List.getElem?_eq_some_iff.mp ej).1
      have eb : row[j]? = some (row[j]'(by omega)) := List.getElem?_eq_getElem (by omega)
      obtain ⟨vv, evv⟩ := h.ball hi eb
      rw [ej] at evv
      have ey := Option.some.inj evv
      refine ⟨_, things_mem.mpr (.inr (.inl ⟨_, List.mem_of_getElem? eb, rfl⟩)), ?_, .inr ⟨y, hy, rfl⟩⟩
      rw [ey]
      rfl
    · obtain ⟨w0, e0, rfl⟩ := wall e
      exact ⟨w0, things_mem.mpr (.inr (.inr e0)), rfl, .inl rfl⟩
  have b5 : 5 * 2 ^ c * wprod row ≤ 2 ^ (c + 48) := by
    have : 5 * 2 ^ c ≤ 2 ^ (c + 3) := by rw [Nat.pow_add]; omega
    have h2 := Nat.mul_le_mul this (Nat.le_of_lt hP3)
    rw [← Nat.pow_add] at h2
    exact Nat.le_trans h2 (pow_le2 (by omega))
  refine ⟨D * wprod row, n.natAbs * Q, Nat.mul_pos hD hP, hN, ?_, ?_, fun th ht => ?_, fun th ht => ?_⟩
  · exact Nat.lt_of_lt_of_le (mul_lt_pow dD hP3) (pow_le2 (by omega))
  · exact Nat.lt_of_lt_of_le (mul_lt_pow (m := c + 1) (n := q) (by rw [Nat.pow_succ]; omega) dQ) (pow_le2 (by omega))
  · obtain ⟨th0, h0, _, e | ⟨y, hy, e⟩⟩ := src th ht
    · rw [e]
      exact ((hs th0 h0).lift hD hP).mono (Nat.le_trans (Nat.mul_le_mul_right _ (by omega)) b5)
    · rw [e]
      exact (h.speed hi hD hs hy).mono b5
  · obtain ⟨th0, h0, e, _⟩ := src th ht
    rw [e]
    exact place th0 h0
end
end K57
/-! G10: all of a row and its next comings -/
namespace K57
open PySem PySem.Spec PyProof.Rows L2 PD M
/-- the exponents fit for k comings -/
def Fits : Nat → Nat → Nat → Nat → Nat → Prop
  | 0, _, _, _, _ => True
  | k + 1, a, c, q, x => (a ≤ 620 ∧ c ≤ 620 ∧ q ≤ 2100 ∧ x ≤ 2100 ∧ x + 1 + a ≤ 2600 ∧ c + 1 + q ≤ 2600) ∧ Fits k (a + 45) (c + 48) (q + c + 1) (x + c + 2)
theorem fits8 : Fits 8 15 87 15 90 := by
  simp only [Fits]
  decide
theorem rowOk_of {row : List Ball} {ws : Ws} (hi : RowIn row ws) (hz : Sz (things row ws)) : RowOk row ws := ⟨by have := hi.le; omega, hz, fun b hb => by have := hi.w b hb; omega⟩
theorem watchOk_of : ∀ (k : Nat) {a c q x : Nat} {row : List Ball} {ws : Ws}, Fits k a c q x → RowIn row ws → Siz a c q x row ws → WatchOk k row ws
  | 0, _, _, _, _, _, _, _, _, _ => trivial
  | k + 1, a, c, q, x, row, ws, hf, hi, hz => by
    obtain ⟨⟨f1, f2, f3, f4, f5, f6⟩, hf'⟩ := hf
    refine ⟨rowOk_of hi (hz.sz f1 f2 f3 f4 f5 f6), fun t r ws2 e => ?_⟩
    obtain ⟨gs, hc, rfl⟩ := came_of e
    exact watchOk_of k hf' (hc.rowIn hi) (hc.siz hi hz)
theorem seenOf_came {row : List Ball} {ws ws2 : Ws} {t : Rat} {r : List Ball} {gs : List Grp} (hc : Came row ws t gs r) (e : behindC row ws = .at_ t r ws2) : seenOf row ws r = seenUp row r gs gs.length := by
  obtain ⟨gs', en, _, _⟩ := behindC_at e
  have h1 := (nextC_at en).2.2
  unfold seenOf
  rw [en]
  simp only
  rw [h1, hc.eg]
theorem watch_meets : ∀ (k : Nat) {a c q x : Nat} {row : List Ball} {ws : Ws} {l : List Sg} {wts : List Nat}, Fits k a c q x → RowIn row ws → Siz a c q x row ws → row.map Ball.w = wts → (∀ s ∈ l, MeetOf wts s ∧ s.j = s.i + 1) → ∀ s ∈ watch k row ws l, MeetOf wts s ∧ s.j = s.i + 1
  | 0, _, _, _, _, _, _, l, _, _, _, _, _, hl => hl
  | k + 1, a, c, q, x, row, ws, l, wts, hf, hi, hz, hw, hl => by
    obtain ⟨⟨f1, f2, f3, f4, f5, f6⟩, hf'⟩ := hf
    have sz := hz.sz f1 f2 f3 f4 f5 f6
    unfold watch
    split
    · rename_i t r ws2 e
      split
      · exact hl
      · obtain ⟨gs, hc, rfl⟩ := came_of e
        refine watch_meets k hf' (hc.rowIn hi) (hc.siz hi hz) ((hc.weights hi).trans hw) fun s hs => ?_
        rcases List.mem_append.mp hs with hs | hs
        · exact hl s hs
        · rw [seenOf_came hc e] at hs
          rw [← hw]
          exact hc.seen hi (fun b hb => (sz.s _ (things_ball hb)).mono (by decide)) s hs
    · exact hl
theorem watch_sub : ∀ (k : Nat) {row : List Ball} {ws : Ws} {l : List Sg}, ∀ s ∈ l, s ∈ watch k row ws l
  | 0, _, _, _, s, h => h
  | k + 1, row, ws, l, s, h => by
    unfold watch
    split
    · split
      · exact h
      · exact watch_sub k s (List.mem_append_left _ h)
    · exact h
theorem watch_len : ∀ (k : Nat) {row : List Ball} {ws : Ws} {l : List Sg}, RowIn row ws → l.length ≤ 40 → (watch k row ws l).length ≤ 40
  | 0, _, _, _, _, h => h
  | k + 1, row, ws, l, hi, h => by
    unfold watch
    split
    · rename_i t r ws2 e
      split
      · exact h
      · obtain ⟨gs, hc, rfl⟩ := came_of e
        refine watch_len k (hc.rowIn hi) ?_
        have := seenOf_len (by have := hi.le; omega) e
        rw [List.length_append]
        omega
    · exact h
theorem rowMath {row : List Ball} {ws : Ws} (hi : RowIn row ws) (hd : RowDr row) (w1 : WlDr ws.1) (w2 : WlDr ws.2) : RowMath row ws := by
  have hz : Siz 15 87 15 90 row ws := by
    refine ⟨27720, 27720, by decide, by decide, by decide, by decide, fun th ht => ?_, fun th ht => ?_⟩
    · rcases things_mem.mp ht with e | ⟨b, hb, rfl⟩ | e
      · exact w1.s th e
      · exact hd.s b hb
      · exact w2.s th e
    · rcases things_mem.mp ht with e | ⟨b, hb, rfl⟩ | e
      · exact (w1.p th e).mono (by decide)
      · exact (hd.p b hb).mono (by decide)
      · exact (w2.p th e).mono (by decide)
  have ok8 := watchOk_of 8 fits8 hi hz
  have hm := watch_meets 8 fits8 hi hz rfl (l := []) fun s hs => by cases hs
  refine ⟨ok8, ⟨ok8.1, fun _ _ _ _ => trivial⟩, fun s hs => (hm s hs).1, fun s hs => (hm s hs).2, watch_len 8 hi (Nat.zero_le _), fun s hs => ?_, ?_⟩
  · unfold watch at hs ⊢
    split at hs
    · rename_i t r ws2 e
      rw [if_neg (by decide)] at hs
      exact watch_sub 7 s hs
    · cases hs
  · unfold watch
    split
    · rename_i t r ws2 e
      rw [if_neg (by decide)]
      exact seenOf_len (by have := hi.le; omega) e
    · exact Nat.zero_le _
end K57
/-! F21: law -/
namespace PD
open PySem PySem.Spec PyProof.Rows L2
section
variable {K : PySem.W.Frag} {W : XK} {ρ : List Sl}
theorem s_re {M : Addr → Prop} {t : TS} {ρ ρ' : List Sl} {Φ : Out → Prop} (e : ρ = ρ') (h : S K M W t ρ' Φ) : S K M W t ρ Φ := e ▸ h
/-- a state without owned things -/
theorem sst_plain {F H : Hp} {ρ : List Sl} {σ : L2.St} (s : Same F H) (hl : σ.length = ρ.length) (h : ∀ (i : Nat) (t : Sl) (w : Option V), ρ[i]? = some t → σ[i]? = some w → SlOk K (fun _ => False) F H t w ∧ ∀ b, ¬ Owns t w b) : SSt K (fun _ => False) H F F H ρ σ :=
  ⟨⟨hl, fun i t w e1 e2 => (h i t w e1 e2).1, fun b m => m.elim⟩, .refl s, fun b m => m.elim, fun i t w b e1 e2 ow => ((h i t w e1 e2).2 b ow).elim, fun i j t u v w b e1 e2 _ _ ow _ => ((h i t v e1 e2).2 b ow).elim⟩
end
end PD
namespace K57
open PySem PySem.Spec PyProof.Rows L2 PD M
section
variable {K : PySem.W.Frag}
abbrev law0 (ns : List Int) : List Sl := .s (ns.map V.int) :: List.replicate 21 .u
/-- _law_pool = _law_dig(_law_cell(_law_script, _law_k)), and what follows -/
theorem s_newPool {W W1 W2 : XK} {ns : List Int} {k : Nat} {u : TS} {Φ : Out → Prop} (hk : k ≤ 1000) (hns : ns.length ≤ 1000)
    (h : ∀ a, S K (fun b => b = a) W u (((law0 ns).set 1 (.d (.int (k : Int)))).set 2 .p) (fun o => ∃ r : List Sl, o = .nx (.s (ns.map V.int) :: r) ∧ r.length = 21)) (q : Φ (.nx (law0 ns))) :
    S K (fun _ => False) W (tSeq (tAsg (tCall (spDig K) [] W1 (tCons (tCall (spCell K) [] W2 (tCons (tVar 0) (tCons (tVar 1) tNil))) tNil)) (gName 2)) u) ((law0 ns).set 1 (.d (.int (k : Int)))) Φ := fun H0 F0 F H σ D s k1 _ _ _ _ => by
  obtain ⟨w0, e0, a0, rfl, hs⟩ := s.sl.at_ (i := 0) (s := .s (ns.map V.int)) rfl
  obtain ⟨v1, e1, rv1⟩ := s.sl.var (i := 1) (d := .int (k : Int)) rfl
  refine ⟨.ref a0, e0, v1, e1, F, a0, ns, k, by rw [rv1.int_]; rfl, s.st.fh, hs, hk, hns, fun z F1 H1 st1 => ?_⟩
  refine ⟨F1, z, rfl, st1.fh, fun x y z a F2 H2 st2 fa na ha => ?_⟩
  have s2 := (s.step st1).step st2
  have na0 : H a = none := freeBack st1 (fun _ m => m.elim) na
  have n0 : H0 a = none := freeBack s.st (fun _ m => m.elim) na0
  have hp : IsPool H2 a := ⟨x, y, z, ha⟩
  have own0 : ∀ {i : Nat} {t : Sl} {w : Option V} {b : Addr}, ((law0 ns).set 1 (.d (.int (k : Int))))[i]? = some t → ¬ Owns t w b := fun {i t w b} e ow => by
    match i, e with
    | 0, e => cases e; exact ow
    | 1, e => cases e; exact ow
    | i + 2, e =>
      have : t = .u := List.eq_of_mem_replicate (List.mem_of_getElem? (show (List.replicate 20 Sl.u)[i]? = some t from e))
      subst this
      exact ow
  have sp : SSt K (fun b => b = a) H2 F2 F2 H2 (((law0 ns).set 1 (.d (.int (k : Int)))).set 2 .p) (σ.set 2 (some (.ref a))) := by
    refine ⟨⟨by rw [List.length_set, List.length_set]; exact s2.sl.len, fun i t w q1 q2 => ?_, fun b m => by cases m; exact hp⟩, .refl st2.fh, fun b m => by cases m; exact hp, fun i t w b q1 _ ow => ?_, fun i j t u v w b q1 _ _ _ ow _ => ?_⟩
    · rcases set_inv q1 with ⟨z1, y1⟩ | ⟨m1, y1⟩ <;> rcases set_inv q2 with ⟨z2, y2⟩ | ⟨m2, y2⟩
      · subst y1; subst y2
        exact ⟨a, rfl, rfl, fa, hp⟩
      · exact absurd z1 m2
      · exact absurd z2 m1
      · have ok := s2.sl.ok i t w y1 y2
        match i, y1 with
        | 0, y1 => cases y1; exact ok
        | 1, y1 => cases y1; exact ok
        | i + 2, y1 =>
          have : t = .u := List.eq_of_mem_replicate (List.mem_of_getElem? (show (List.replicate 20 Sl.u)[i]? = some t from y1))
          subst this
          trivial
    · rcases set_inv q1 with ⟨z1, y1⟩ | ⟨m1, y1⟩
      · subst y1; exact ow.elim
      · exact (own0 y1 ow).elim
    · rcases set_inv q1 with ⟨z1, y1⟩ | ⟨m1, y1⟩
      · subst y1; exact ow.elim
      · exact (own0 y1 ow).elim
  refine h a H2 F2 F2 H2 _ D sp (fun ρ' σ' F' H' e s' => ?_) (fun d v F' H' e st rv => ?_) (fun ρ' σ' F' H' e s' => ?_) (fun ρ' σ' F' H' e s' => ?_) (fun C dd F' H' e st => ?_)
  · obtain ⟨r, er, hr⟩ := e
    cases er
    have st02 : Step (fun _ => False) F0 H0 F' H' := ⟨s2.st.ff.trans s'.st.ff, s'.st.fh, fun b o e _ => s'.st.hh b o (s2.st.hh b o e id) (fun z => by rw [z, n0] at e; cases e), fun b hb f => s'.st.nf b (fun z => by
      cases e : H0 b with
      | none => exact hb e
      | some o => rw [s2.st.hh b o e id] at z; cases z) (s2.st.nf b hb f), fun _ m => m.elim⟩
    obtain ⟨w0', e0', hs'⟩ := s'.sl.at_ (i := 0) (s := .s (ns.map V.int)) rfl
    have g : ∀ {i : Nat} {t : Sl}, (law0 ns)[i]? = some t → (i = 0 ∧ t = .s (ns.map V.int)) ∨ t = .u := fun {i t} e => by
      cases i with
      | zero => cases e; exact .inl ⟨rfl, rfl⟩
      | succ i => exact .inr (List.eq_of_mem_replicate (List.mem_of_getElem? (show (List.replicate 21 Sl.u)[i]? = some t from e)))
    refine k1 _ _ F' H' q ⟨⟨by rw [s'.sl.len]; simp [hr], fun i t w q1 q2 => ?_, fun b m => m.elim⟩, st02, fun b m => m.elim, fun i t w b q1 _ ow => ?_, fun i j t u v w b q1 _ _ _ ow _ => ?_⟩
    · rcases g q1 with ⟨rfl, rfl⟩ | rfl
      · rw [e0'] at q2
        cases q2
        exact hs'
      · trivial
    · rcases g q1 with ⟨rfl, rfl⟩ | rfl <;> exact ow.elim
    · rcases g q1 with ⟨rfl, rfl⟩ | rfl <;> exact ow.elim
  · obtain ⟨_, z, _⟩ := e; cases z
  · obtain ⟨_, z, _⟩ := e; cases z
  · obtain ⟨_, z, _⟩ := e; cases z
  · obtain ⟨_, z, _⟩ := e; cases z
theorem depth_N : ∀ l : List Nat, PyData.canLayAll0 (l.map encN) = true ∧ PyData.depthAll (l.map encN) = 0
  | [] => ⟨rfl, rfl⟩
  | x :: l => by
    obtain ⟨h1, h2⟩ := depth_N l
    refine ⟨?_, ?_⟩
    · show (PyData.canLay0 (encN x) && PyData.canLayAll0 (l.map encN)) = true
      rw [h1]
      rfl
    · show max (PyData.depth (encN x)) (PyData.depthAll (l.map encN)) = 0
      rw [h2]
      rfl
theorem flat_tupN (l : List Nat) : flatD (.tuple (l.map encN)) := by
  obtain ⟨h1, h2⟩ := depth_N l
  refine ⟨h1, ?_⟩
  show PyData.depthAll (l.map encN) + 1 ≤ 30
  rw [h2]
  decide
abbrev wres (l : List Nat) : PyData := .tuple [.str "weights", .tuple (l.map encN)]
theorem wres_shaped (l : List Nat) : SeqAt.shaped (wres l) = true := shaped_tup fun d hd => by
  rcases List.mem_cons.mp hd with rfl | hd
  · exact ⟨by decide +kernel, by decide +kernel⟩
  · rw [List.mem_singleton.mp hd]
    exact flat_tupN l
theorem wres_eqv (l : List Nat) : PyData.eqv (wres l) (wres l) = true := SeqAt.eqv_refl _ (by
  show (PyData.canLay0 (.str "weights") && (PyData.canLay0 (.tuple (l.map encN)) && true)) = true
  rw [show PyData.canLay0 (.tuple (l.map encN)) = true from (depth_N l).1]
  decide +kernel)
theorem range_at {l : List Nat} {n : Nat} {f : Nat → PyData} (hn : n = l.length) (h : ∀ k, k < n → ∀ x, l[k]? = some x → f k = encN x) : (List.range n).map f = l.map encN := by
  refine List.ext_getElem? fun k => ?_
  rw [List.getElem?_map, List.getElem?_map]
  by_cases hk : k < n
  · have e1 : (List.range n)[k]? = some k := List.getElem?_range hk
    have e2 : l[k]? = some (l[k]'(by omega)) := List.getElem?_eq_getElem (by omega)
    rw [e1, e2]
    exact congrArg some (h k hk _ e2)
  · rw [List.getElem?_eq_none (by rw [List.length_range]; omega), List.getElem?_eq_none (by omega)]
    rfl
def spLaw (K : PySem.W.Frag) : Sp := fun vs H Q _ => ∃ (a : Addr) (ns : List Int), vs = [.ref a] ∧ ns.length ≤ 63 ∧ SqL K H a (ns.map V.int) ∧ ∀ H', Q (.bl true) H'
/-- weights that do all are told -/
theorem ev_wOf {K : PySem.W.Frag} {M : Addr → Prop} {W : XK} {ρ : List Sl} {ta tb : TE} {ws : List Nat} {ss ts : List Sg} (ha : Ev K M ta ρ (.int (ws.length : Int))) (hb : Ev K M tb ρ (.list (ss.map encS))) (hm : ∀ s ∈ ss, MeetOf ws s) (hn : ws.length ≤ 10) (hpos : ∀ x ∈ ws, 0 < x) (hl : ss.length ≤ 100) (he : SameEdges ss ts) (hnx : ∀ t ∈ ts, t.j = t.i + 1 ∧ t.j < ws.length) :
    Ev K M (tCall (spN K R_weights_of) [] W (tCons ta (tCons tb tNil))) ρ (wres (leastF ws (partsOf ws.length ts))) :=
  evN_N (ag_cons ha (ag_cons hb ag_nil)) fun ds e => by
    subst e
    refine ⟨_, ⟨ws.length, ss, fun k d => d = encN (leastW ws (partsOf ws.length ts) k), rfl, hn, hl, fun s hs => (hm s hs).good rfl, fun b l c _ hp => cons_part hm rfl hpos he hnx hp hn, rfl⟩, fun d hd => ?_⟩
    rcases hd with ⟨b, l, c, rg, _, hp, _⟩ | ⟨vals, hv, rfl⟩
    · exact (cons_noring hm (hp.rg rg rfl).1).elim
    · have : (List.range ws.length).map vals = (leastF ws (partsOf ws.length ts)).map encN := by
        unfold leastF
        rw [List.map_map]
        exact List.map_congr_left fun k hk => hv k (List.mem_range.mp hk)
      show PyData.tuple [.str "weights", .tuple ((List.range ws.length).map vals)] = _
      rw [this]
theorem cut_nine {α : Type} (l : List α) : cutL l none (some 9) = l.take 9 := by
  unfold cutL
  rw [HT.sIx_none, show HT.sIx l.length l.length (some 9) = min 9 l.length from HT.sIx_nat l.length l.length 9, Nat.sub_zero, List.drop_zero]
  by_cases h : 9 ≤ l.length
  · rw [Nat.min_eq_left h]
  · rw [Nat.min_eq_right (by omega), List.take_of_length_le (Nat.le_refl _), List.take_of_length_le (by omega)]
theorem flat_S (s : Sg) : flatD (encS s) := ⟨rfl, show (2 : Nat) ≤ 30 by decide⟩
theorem encN_int (l : List Nat) : l.map encN = (l.map fun x : Nat => ((x : Nat) : Int)).map PyData.int := by
  rw [List.map_map]
  rfl
theorem encS_sw (s : Sg) : PyData.tuple [.int (s.j : Int), .int (s.i : Int), encR s.w, encR s.v, encR s.w2, encR s.v2] = encS (swS s) := rfl
theorem edges_refl (ss : List Sg) : SameEdges ss ss := ⟨fun s hs => ⟨s, hs, .inl ⟨rfl, rfl⟩⟩, fun s hs => ⟨s, hs, .inl ⟨rfl, rfl⟩⟩⟩
theorem edges_sw (ss : List Sg) : SameEdges (ss.map swS) ss := by
  refine ⟨fun s hs => ?_, fun t ht => ⟨swS t, List.mem_map_of_mem ht, .inr ⟨rfl, rfl⟩⟩⟩
  obtain ⟨t, ht, rfl⟩ := List.mem_map.mp hs
  exact ⟨t, ht, .inr ⟨rfl, rfl⟩⟩
theorem edges_both (ss : List Sg) (ts : List Sg) (h : ∀ t ∈ ts, t ∈ ss.map swS) : SameEdges (ss ++ ts) ss := by
  refine ⟨fun s hs => ?_, fun t ht => ⟨t, List.mem_append_left _ ht, .inl ⟨rfl, rfl⟩⟩⟩
  rcases List.mem_append.mp hs with hs | hs
  · exact ⟨s, hs, .inl ⟨rfl, rfl⟩⟩
  · obtain ⟨t, ht, rfl⟩ := List.mem_map.mp (h s hs)
    exact ⟨t, ht, .inr ⟨rfl, rfl⟩⟩
theorem list_eqv_nil (l : List Sg) : PyData.eqv (.list (l.map encS)) (.list []) = l.isEmpty := by
  cases l <;> rfl
end
section
variable {P : Program} {w : World} {K : PySem.W.Frag} {mg : Str → Option Value} {base : Heap}
theorem sc_law : FnScope ["_law_script", "_law_k", "_law_pool", "_law_row_here", "_law_shuts", "_law_some", "_law_weights_here", "_law_n", "_law_due", "_law_swapped", "_law_close", "_law_other", "_law_odd", "_law_found", "_law_one", "_law_i", "_law_j", "_law_v", "_law_w", "_law_v2", "_law_w2", "_law_ball"] ["_law_script"] (defScope (top 75)) := ⟨rfl, rfl, rfl, by decide +kernel, rfl, by decide +kernel, by decide +kernel⟩
theorem ok_law {f aN aO : Addr} {fd : FuncData} (T : Txt K mg aN aO)  (C__law_dig : Cal P w K mg base CX0 1 "_law_dig" ["_law_cell_here"] [] (spDig K)) (C__law_row : Cal P w K mg base CX0 4 "_law_row" ["_law_pool", "_law_most"] [] (spP K P_row)) (C__law_bounds : Cal P w K mg base CX0 5 "_law_bounds" ["_law_pool", "_law_row_here"] [] (spP K P_bounds)) (C__law_watched : Cal P w K mg base CX0 10 "_law_watched" ["_law_row_here", "_law_shuts", "_law_most"] [] (spF K R_watched)) (C__law_least : Cal P w K mg base CX0 2 "_law_least" ["_law_weights_here", "_law_parts_here"] [] (spF K R_least)) (C__law_cell : Cal P w K mg base CX0 1 "_law_cell" ["_law_script", "_law_k"] [] (spCell K)) (C__law_parts : Cal P w K mg base CX0 1 "_law_parts" ["_law_n", "_law_sightings"] [] (spF K R_parts)) (C__law_meeting : Cal P w K mg base CX0 4 "_law_meeting" ["_law_i", "_law_j", "_law_one", "_law_other", "_law_v", "_law_w"] [] (spF K R_meeting)) (C_weights_of : Cal P w K mg base CX0 10 "weights_of" ["n", "sightings"] [] (spN K R_weights_of)) (C_does_all : Cal P w K mg base CX0 6 "does_all" ["weights", "sightings"] [] (spF K R_does_all)) (C__law_next : Cal P w K mg base CX0 1 "_law_next" ["_law_pool", "_law_base"] [] (spP K P_next)) (C_lets_ring : Cal P w K mg base CX0 7 "lets_ring" ["n", "sightings", "ring"] [] (spF K R_lets_ring))  (F : FunD K "law" "law" (defArgs (top 75)) (defBody (top 75)) (defScope (top 75)) [] [] f fd) : FnOk P w K mg base CX0 11 f fd ["_law_script"] (spLaw K) := by
  refine ok_defG F sc_law (fun vs H Q W h => ?_) (fun cdv A outer s H W hr => ⟨_, (pss_cons (ps_for (passes_of rfl) rfl (pi_range1 (by rfl) T.f_range (pa_cons (pe_callB (call_max2 rfl) (by rfl) T.f_max (by decide +kernel) (pa_cons pe_int (pa_cons (pe_callB (call_min2 rfl) (by rfl) T.f_min (by decide +kernel) (pa_cons pe_int (pa_cons (pe_callB call_len_seq (by rfl) T.f_len (by decide +kernel) (pa_cons (pv 0) pa_nil)) pa_nil))) pa_nil))) pa_nil)) (pg_name (i := 1) sc_law.nd rfl (Or.inl rfl)) (pss_cons (ps_set (i := 2) sc_law.nd rfl (Or.inl rfl) (pe_cal C__law_dig (hr.mono (by decide)) pass0 (pa_cons (pe_cal C__law_cell (hr.mono (by decide)) pass0 (pa_cons (pv 0) (pa_cons (pv 1) pa_nil))) pa_nil)))
      (pss_cons (ps_set (i := 3) sc_law.nd rfl (Or.inl rfl) (pe_cal C__law_row (hr.mono (by decide)) pass0 (pa_cons (pv 2) (pa_cons pe_int pa_nil))))
      (pss_cons (ps_set (i := 4) sc_law.nd rfl (Or.inl rfl) (pe_cal C__law_bounds (hr.mono (by decide)) pass0 (pa_cons (pv 2) (pa_cons (pv 3) pa_nil))))
      (pss_cons (ps_set (i := 5) sc_law.nd rfl (Or.inl rfl) (pe_cal C__law_watched (hr.mono (by decide)) pass0 (pa_cons (pv 3) (pa_cons (pv 4) (pa_cons pe_int pa_nil)))))
      (pss_cons (ps_set (i := 6) sc_law.nd rfl (Or.inl rfl) (pe_callTy call_tuple_of (by rfl) T.f_tuple (by decide +kernel) (pa_cons (pe_lc (own := [("_law_ball", 21)]) rfl sc_law.nd (pi_tup (pv 3)) (blkOk_by (N := ["_law_script", "_law_k", "_law_pool", "_law_row_here", "_law_shuts", "_law_some", "_law_weights_here", "_law_n", "_law_due", "_law_swapped", "_law_close", "_law_other", "_law_odd", "_law_found", "_law_one", "_law_i", "_law_j", "_law_v", "_law_w", "_law_v2", "_law_w2", "_law_ball"]) (sc := defScope (top 75)) (by decide +kernel)) (fun _ _ _ _ _ => (pg_name (i := 21) sc_law.nd rfl (Or.inl rfl))) (fun _ _ _ _ _ => pts_nil) (fun _ _ _ _ _ => (pe_ix (ix_tupK (K := K) rfl) (pv 21) pe_int (fun _ _ => rfl)))) pa_nil)))
      (pss_cons (ps_set (i := 7) sc_law.nd rfl (Or.inl rfl) (pe_callB call_len_seq (by rfl) T.f_len (by decide +kernel) (pa_cons (pv 3) pa_nil)))
      (pss_cons (ps_set (i := 8) sc_law.nd rfl (Or.inl rfl) (pe_cal C__law_least (hr.mono (by decide)) pass0 (pa_cons (pv 6) (pa_cons (pe_cal C__law_parts (hr.mono (by decide)) pass0 (pa_cons (pv 7) (pa_cons (pv 5) pa_nil))) pa_nil))))
      (pss_cons (ps_if (PW.pt (pw_or (pt_not (pt_val (pe_cal C_does_all (hr.mono (by decide)) pass0 (pa_cons (pv 6) (pa_cons (pv 5) pa_nil))))) (pw_or1 (pt_cmpR (op_neD hr.units) (pe_cal C_weights_of (hr.mono (by decide)) pass0 (pa_cons (pv 7) (pa_cons (pv 5) pa_nil))) (pe_tup (pa_cons pe_str (pa_cons (pv 8) pa_nil))) (nomark _))))) (pss_one (ps_ret pe_bl)) pss_nil)
      (pss_cons (ps_setLc (i := 9) (own := [("_law_one", 14)]) rfl sc_law.nd rfl rfl (sw_true rfl rfl rfl (by decide +kernel)) (pi_list (pv 5)) (blkOk_by (N := ["_law_script", "_law_k", "_law_pool", "_law_row_here", "_law_shuts", "_law_some", "_law_weights_here", "_law_n", "_law_due", "_law_swapped", "_law_close", "_law_other", "_law_odd", "_law_found", "_law_one", "_law_i", "_law_j", "_law_v", "_law_w", "_law_v2", "_law_w2", "_law_ball"]) (sc := defScope (top 75)) (by decide +kernel)) (fun _ _ _ _ _ => (pg_name (i := 14) sc_law.nd rfl (Or.inl rfl))) (fun _ _ _ _ _ => pts_nil) (fun _ _ _ _ _ => (pe_tup (pa_cons (pe_ix (ix_tupK (K := K) rfl) (pv 14) pe_int (fun _ _ => rfl)) (pa_cons (pe_ix (ix_tupK (K := K) rfl) (pv 14) pe_int (fun _ _ => rfl)) (pa_cons (pe_ix (ix_tupK (K := K) rfl) (pv 14) pe_int (fun _ _ => rfl)) (pa_cons (pe_ix (ix_tupK (K := K) rfl) (pv 14) pe_int (fun _ _ => rfl)) (pa_cons (pe_ix (ix_tupK (K := K) rfl) (pv 14) pe_int (fun _ _ => rfl)) (pa_cons (pe_ix (ix_tupK (K := K) rfl) (pv 14) pe_int (fun _ _ => rfl)) pa_nil)))))))))
      (pss_cons (ps_if (PW.pt (pw_or (pt_cmpR (op_neD hr.units) (pe_cal C_weights_of (hr.mono (by decide)) pass0 (pa_cons (pv 7) (pa_cons (pv 9) pa_nil))) (pe_tup (pa_cons pe_str (pa_cons (pv 8) pa_nil))) (nomark _)) (pw_or1 (pt_cmpR (op_neD hr.units) (pe_cal C_weights_of (hr.mono (by decide)) pass0 (pa_cons (pv 7) (pa_cons (pe_op op_cat (pv 5) (pe_slice sl_list (pv 9) po_none (po_some pe_int))) pa_nil))) (pe_tup (pa_cons pe_str (pa_cons (pv 8) pa_nil))) (nomark _))))) (pss_one (ps_ret pe_bl)) pss_nil)
      (pss_cons (ps_set (i := 10) sc_law.nd rfl (Or.inl rfl) (pe_cal C__law_watched (hr.mono (by decide)) pass0 (pa_cons (pv 3) (pa_cons (pv 4) (pa_cons pe_int pa_nil)))))
      (pss_one (ps_if (pt_cmpR (op_neD hr.units) (pv 10) (pe_lst pa_nil) (nomark _)) (pss_cons (ps_asg (pe_ix ix_list (pv 10) (pe_cal C__law_next (hr.mono (by decide)) pass0 (pa_cons (pv 2) (pa_cons (pe_callB call_len_seq (by rfl) T.f_len (by decide +kernel) (pa_cons (pv 10) pa_nil)) pa_nil))) (fun _ _ => rfl)) (pg_tup rfl (pgs_cons (pg_name (i := 15) sc_law.nd rfl (Or.inl rfl)) (pgs_cons (pg_name (i := 16) sc_law.nd rfl (Or.inl rfl)) (pgs_cons (pg_name (i := 17) sc_law.nd rfl (Or.inl rfl)) (pgs_cons (pg_name (i := 18) sc_law.nd rfl (Or.inl rfl)) (pgs_cons (pg_name (i := 19) sc_law.nd rfl (Or.inl rfl)) (pgs_cons (pg_name (i := 20) sc_law.nd rfl (Or.inl rfl)) pgs_nil))))))))
      (pss_cons (ps_set (i := 11) sc_law.nd rfl (Or.inl rfl) (pe_callTy call_list_of (by rfl) T.f_list (by decide +kernel) (pa_cons (pv 6) pa_nil)))
      (pss_cons (ps_asg (pe_op op_add (pe_ix ix_list (pv 11) (pv 15) (fun _ _ => rfl)) pe_int) (pg_sub (pv 11) (pv 15) set_list))
      (pss_cons (ps_set (i := 12) sc_law.nd rfl (Or.inl rfl) (pe_cal C__law_meeting (hr.mono (by decide)) pass0 (pa_cons (pv 15) (pa_cons (pv 16) (pa_cons (pe_ix ix_list (pv 11) (pv 15) (fun _ _ => rfl)) (pa_cons (pe_ix ix_list (pv 11) (pv 16) (fun _ _ => rfl)) (pa_cons (pv 17) (pa_cons (pv 18) pa_nil))))))))
      (pss_cons (ps_set (i := 13) sc_law.nd rfl (Or.inl rfl) (pe_cal C_weights_of (hr.mono (by decide)) pass0 (pa_cons (pv 7) (pa_cons (pe_op op_cat (pv 5) (pe_lst (pa_cons (pv 12) pa_nil))) pa_nil))))
      (pss_one (ps_if (PW.pt (pw_or (pt_cmpR op_ne (pe_ix ix_tup (pv 13) pe_int (fun _ _ => rfl)) pe_str (nomark _)) (pw_or1 (pt_not (pt_val (pe_cal C_lets_ring (hr.mono (by decide)) pass0 (pa_cons (pv 7) (pa_cons (pe_op op_cat (pv 5) (pe_lst (pa_cons (pv 12) pa_nil))) (pa_cons (pe_ix ix_tup (pv 13) pe_int (fun _ _ => rfl)) pa_nil))))))))) (pss_one (ps_ret pe_bl)) pss_nil))))))) pss_nil))))))))))))))
      (pss_one (ps_ret pe_bl))), fun vs Q h => ?_⟩)
  · obtain ⟨a, ns, rfl, _⟩ := h
    rfl
  · obtain ⟨a, ns, rfl, hns, hs, qq⟩ := h
    refine ⟨fun _ => False, H, law0 ns, fun d => d = .bool true, sst_plain (.refl H) rfl (fun i t w e1 e2 => ?_), ?_, fun d v F' H' ed st rv => ?_⟩
    · cases i with
      | zero => cases e1; cases e2; exact ⟨⟨a, rfl, hs⟩, fun b ow => ow⟩
      | succ i =>
        have : t = .u := List.eq_of_mem_replicate (List.mem_of_getElem? (show (List.replicate 21 Sl.u)[i]? = some t from e1))
        subst this
        exact ⟨trivial, fun b ow => ow⟩
    · obtain ⟨n, hn, hn2⟩ : ∃ n : Nat, (if (if (ns.length : Int) < 30 then (ns.length : Int) else 30) > 3 then (if (ns.length : Int) < 30 then (ns.length : Int) else 30) else 3) = (n : Int) ∧ n ≤ 30 := ⟨(if (if (ns.length : Int) < 30 then (ns.length : Int) else 30) > 3 then (if (ns.length : Int) < 30 then (ns.length : Int) else 30) else 3).toNat, by split <;> split <;> omega, by split <;> split <;> omega⟩
      refine s_seq (s_forR (n := n) (J := fun k ρ' => ρ' = law0 ns) (ag_cons (Ev.eq (ev_cb (ag_cons ev_int (ag_cons (ev_cb (ag_cons ev_int (ag_cons (Ev.eq (ev_lenS (xs := ns.map V.int) rfl) (by rw [List.length_map])) ag_nil)) cb_min2) ag_nil)) cb_max2) (by rw [hn])) ag_nil) (by omega) rfl ?_ ?_)
      · rintro k ρ' hk rfl
        refine ⟨_, tg_name, ?_⟩
        refine s_newPool (by omega) (by omega) (fun pa => ?_) rfl
        refine s_seq (s_setP (evN_pool (i := 2) rfl (ag_cons ev_int ag_nil) fun ds e => by subst e; exact ⟨_, ⟨rfl, rfl⟩, fun d h => h⟩) ?_)
        rintro d ⟨row, rfl, hrow0, hrd⟩
        refine s_seq (s_setP (evN_pool (i := 2) rfl (ag_cons (ev_var rfl) ag_nil) fun ds e => by subst e; exact ⟨_, ⟨row, rfl, hrow0, hrd, rfl⟩, fun d h => h⟩) ?_)
        rintro d ⟨ws, rfl, hrow, hw1, hw2⟩
        have hm := rowMath hrow hrd hw1 hw2
        have hlen := hrow.le
        have hW : ∀ x ∈ row.map Ball.w, 0 < x ∧ x ≤ 1000 := fun x hx => by
          obtain ⟨b, hb, rfl⟩ := List.mem_map.mp hx
          exact hrow.w b hb
        have hWl : (row.map Ball.w).length = row.length := List.length_map _
        obtain ⟨so, hso⟩ : ∃ so, watch 8 row ws [] = so := ⟨_, rfl⟩
        have hmeet := hm.meets
        have hsl := hm.len
        have hsub := hm.sub
        have hnx := hm.nx
        rw [hso] at hmeet hsl hsub hnx
        have hgood : ∀ s ∈ so, Good row.length s := fun s hs => (hmeet s hs).good hWl
        refine s_seq (s_set (d := .list (so.map encS)) (ev_fn (ag_cons (ev_var rfl) (ag_cons (ev_var rfl) (ag_cons ev_int ag_nil))) ⟨row, ws, 8, rfl, by decide, hm.ok8, by rw [hso]⟩) ?_)
        refine s_seq (s_set (ev_cb (ag_cons (EL.ev (el_mapTf encB (h := fun b : Ball => encN b.w) (ev_var rfl) (by omega) fun b hb => ⟨_, te_name (by decide), ev_we (b := b) (ev_var rfl) ev_int⟩)) ag_nil) cb_tupleL) ?_)
        have eW : row.map (fun b : Ball => encN b.w) = (row.map Ball.w).map encN := by rw [List.map_map]; rfl
        rw [eW]
        have eWi := encN_int (row.map Ball.w)
        generalize hWd : row.map Ball.w = wts at *
        refine s_seq (s_set (Ev.eq (d' := .int (row.length : Int)) (ev_cb (ag_cons (ev_var rfl) ag_nil) cb_lenT) (by rw [List.length_map])) ?_)
        have hpl : (partsOf row.length so).length = wts.length := by rw [hWl]; exact sweeps_len _ _ _
        refine s_seq (s_set (d := .tuple ((leastF wts (partsOf row.length so)).map encN)) (ev_fn (ag_cons (ev_var rfl) (ag_cons (ev_fn (d := .list ((partsOf row.length so).map encN)) (ag_cons (ev_var rfl) (ag_cons (ev_var rfl) ag_nil)) ⟨row.length, so, rfl, by omega, by omega, fun s hs => ⟨(hgood s hs).li, (hgood s hs).lj⟩, rfl⟩) ag_nil)) ⟨wts, _, rfl, by omega, hpl, fun x hx => by have := hW x hx; omega, rfl⟩) ?_)
        have hpos : ∀ x ∈ wts, 0 < x := fun x hx => (hW x hx).1
        have hnx2 : ∀ t ∈ so, t.j = t.i + 1 ∧ t.j < wts.length := fun t ht => ⟨hnx t ht, by rw [hWl]; exact (hgood t ht).lj⟩
        have eD : (.tuple [.str "weights", .tuple ((leastF wts (partsOf row.length so)).map encN)] : PyData) = wres (leastF wts (partsOf wts.length so)) := by rw [hWl]
        have neq : ∀ {M : Addr → Prop} {ρ : List Sl} {ta tb : TE}, Ev K M ta ρ (wres (leastF wts (partsOf wts.length so))) → Ev K M tb ρ (wres (leastF wts (partsOf wts.length so))) → Te K M (tTest (tOp (rNeD K) ta tb)) ρ false := fun h1 h2 => (te_test (ev_op h1 h2 (od_neD (wres_shaped _) (wres_shaped _)))).eq (by rw [wres_eqv]; rfl)
        have eN : (.int (row.length : Int) : PyData) = .int (wts.length : Int) := by rw [hWl]
        refine s_seq (s_ifF (te_or (c := false) (e := false) (te_not (c := true) (te_val (ev_fn (ag_cons (ev_var rfl) (ag_cons (ev_var rfl) ag_nil)) ⟨wts.map (fun x : Nat => ((x : Nat) : Int)), so, by rw [← eWi], by rw [List.length_map]; omega, by omega, fun z hz => ?_, fun s hs => (hmeet s hs).done, rfl⟩))) fun _ => neq (ev_wOf ((ev_var rfl).eq eN) (ev_var rfl) hmeet (by omega) hpos (by omega) (edges_refl so) hnx2) ((ev_tup (ag_cons ev_str (ag_cons (ev_var rfl) ag_nil))).eq eD)) (s_next ?_))
        · obtain ⟨x, hx, rfl⟩ := List.mem_map.mp hz
          have := hpos x hx
          show (1 : Int) ≤ ((x : Nat) : Int)
          omega
        refine s_seq (s_setL (xs := (so.map swS).map encS) ?_ ?_)
        · rw [List.map_map]
          refine el_mapLf encS (h := fun s => encS (swS s)) (ev_var rfl) (by omega) fun s hs => ⟨_, te_name (by decide), ?_⟩
          have g : ∀ {M : Addr → Prop} {ρ : List Sl} {i : Int} {d : PyData}, ρ[14]? = some (.d (encS s)) → atI [.int (s.i : Int), .int (s.j : Int), encR s.v, encR s.w, encR s.v2, encR s.w2] i = some d → Ev K M (tOp (rIxT K) (tVar 14) (tC (.int i))) ρ d := fun h1 h2 => ev_op (ev_var h1) ev_int (od_ixT h2)
          exact ev_tup (ag_cons (g rfl rfl) (ag_cons (g rfl rfl) (ag_cons (g rfl rfl) (ag_cons (g rfl rfl) (ag_cons (g rfl rfl) (ag_cons (g rfl rfl) ag_nil))))))
        refine s_freeze (i := 9) rfl ?_
        have hmeetS : ∀ s ∈ so.map swS, MeetOf wts s := fun s hs => by
          obtain ⟨t, ht, rfl⟩ := List.mem_map.mp hs
          exact (hmeet t ht).sw
        have ecut : cutL ((so.map swS).map encS) none (some 9) = ((so.map swS).take 9).map encS := by
          rw [cut_nine, List.map_take]
        refine s_seq (s_ifF (te_or (c := false) (e := false) (neq (ev_wOf ((ev_var rfl).eq eN) (ev_var rfl) hmeetS (by omega) hpos (by rw [List.length_map]; omega) (edges_sw so) hnx2) ((ev_tup (ag_cons ev_str (ag_cons (ev_var rfl) ag_nil))).eq eD)) fun _ => neq (ev_wOf (ss := so ++ (so.map swS).take 9) ((ev_var rfl).eq eN) (EL.ev ?_) (fun s hs => ?_) (by omega) hpos (by rw [List.length_append, List.length_take]; omega) (edges_both so _ fun t ht => List.mem_of_mem_take ht) hnx2) ((ev_tup (ag_cons ev_str (ag_cons (ev_var rfl) ag_nil))).eq eD)) (s_next ?_))
        · rw [List.map_append, ← ecut]
          refine el_op (ev_var rfl) (EL.ev (el_sl (ev_var rfl) pr_none (pr_some ev_int))) (ol_cat ?_)
          rw [ecut, List.length_map, List.length_map, List.length_take]
          omega
        · rcases List.mem_append.mp hs with hs | hs
          · exact hmeet s hs
          · exact hmeetS s (List.mem_of_mem_take hs)
        obtain ⟨cl, hcl⟩ : ∃ cl, watch 1 row ws [] = cl := ⟨_, rfl⟩
        have hone := hm.one
        rw [hcl] at hone hsub
        refine s_seq (s_set (d := .list (cl.map encS)) (ev_fn (ag_cons (ev_var rfl) (ag_cons (ev_var rfl) (ag_cons ev_int ag_nil))) ⟨row, ws, 1, rfl, by decide, hm.ok1, by rw [hcl]⟩) ?_)
        have eS : ∀ x : Nat, PyData.int ((x : Int) + 1) = encN (x + 1) := fun x => by unfold encN; rw [Int.natCast_add]; rfl
        refine s_re (ρ' := [.s (ns.map V.int), .d (.int (k : Int)), .p, .d (.tuple (row.map encB)), .d (encWs ws), .d (.list (so.map encS)), .d (.tuple (wts.map encN)), .d (.int (row.length : Int)), .d (.tuple ((leastF wts (partsOf row.length so)).map encN)), .d (.list ((so.map swS).map encS)), .d (.list (cl.map encS)), .u, .u, .u, .u, .u, .u, .u, .u, .u, .u, .u]) rfl ?_
        refine s_if (te_test (ev_op (ev_var rfl) (EL.ev (el_lst ag_nil)) (od_neD (shaped_list fun d hd => by
          obtain ⟨y, _, rfl⟩ := List.mem_map.mp hd
          exact flat_S y) rfl))) (fun hne => ?_) fun _ => s_next ⟨_, rfl, rfl⟩
        have hcl0 : 0 < cl.length := by
          cases cl with
          | nil => cases hne
          | cons y cl => exact Nat.succ_pos _
        refine s_seq (s_asgP (P := fun d => ∃ s ∈ cl, d = encS s) (evN_ixLP (ev_var rfl) (ev_nx rfl (ev_cb (ag_cons (ev_var rfl) ag_nil) cb_lenL) (by rw [List.length_map]; omega) (by rw [List.length_map]; omega)) fun z hz => ?_) ?_)
        · rw [List.length_map] at hz
          obtain ⟨m, rfl⟩ : ∃ m : Nat, z = (m : Int) := ⟨z.toNat, by omega⟩
          have e : cl[m]? = some (cl[m]'(by omega)) := List.getElem?_eq_getElem (by omega)
          exact ⟨_, atI_nat (get_map e), _, List.getElem_mem _, rfl⟩
        rintro d ⟨s, hs, rfl⟩
        refine ⟨_, tg_tup rfl (tgA_cons tg_name (tgA_cons tg_name (tgA_cons tg_name (tgA_cons tg_name (tgA_cons tg_name (tgA_cons tg_name tgA_nil)))))), ?_⟩
        refine s_re (ρ' := [.s (ns.map V.int), .d (.int (k : Int)), .p, .d (.tuple (row.map encB)), .d (encWs ws), .d (.list (so.map encS)), .d (.tuple (wts.map encN)), .d (.int (row.length : Int)), .d (.tuple ((leastF wts (partsOf row.length so)).map encN)), .d (.list ((so.map swS).map encS)), .d (.list (cl.map encS)), .u, .u, .u, .u, .d (.int (s.i : Int)), .d (.int (s.j : Int)), .d (encR s.v), .d (encR s.w), .d (encR s.v2), .d (encR s.w2), .u]) rfl ?_
        have hs8 := hsub s hs
        have hij : s.i ≠ s.j := by have := hnx s hs8; omega
        obtain ⟨a', b', hi', hj', a0, a1, b0, b1, hvw, sv, sw, _, _⟩ := (hmeet s hs8).ex
        obtain ⟨fa, fb, hf⟩ := (hmeet s hs8).facts
        have hfa : fa = a' := by have := hf.hi; rw [hi'] at this; exact (Option.some.inj this).symm
        have hfb : fb = b' := by have := hf.hj; rw [hj'] at this; exact (Option.some.inj this).symm
        subst hfa hfb
        have hil := (List.getElem?_eq_some_iff.mp hi').1
        have hjl := (List.getElem?_eq_some_iff.mp hj').1
        have a1000 := (hW fa (List.mem_of_getElem? hi')).2
        refine s_seq (s_setL (el_listT (ev_var rfl)) ?_)
        refine s_seq (s_put (xs := wts.map encN) (d := encN (fa + 1)) (k := s.i) rfl (Ev.eq (ev_add (a := (fa : Int)) (ev_ixO (xs := wts.map encN) (d := encN fa) (j := (s.i : Int)) rfl (ev_var rfl) (atI_nat (get_map hi'))) ev_int) (eS fa)) (ev_var rfl) (by rw [List.length_map]; exact hil) ?_)
        have eset : (wts.map encN).set s.i (encN (fa + 1)) = (wts.set s.i (fa + 1)).map encN := by rw [List.map_set]
        rw [eset]
        have hi2 : (wts.set s.i (fa + 1))[s.i]? = some (fa + 1) := List.getElem?_set_self hil
        have hj2 : (wts.set s.i (fa + 1))[s.j]? = some fb := by rw [List.getElem?_set_ne hij]; exact hj'
        have hodd := meeting_meet hi2 hj2 (by omega) (by omega) b0 b1 hvw sv sw
        refine s_seq (s_set (d := encS (meeting s.i s.j (fa + 1) fb s.v s.w)) (ev_fn (ag_cons (ev_var rfl) (ag_cons (ev_var rfl) (ag_cons (ev_ixO (d := encN (fa + 1)) rfl (ev_var rfl) (atI_nat (get_map hi2))) (ag_cons (ev_ixO (d := encN fb) rfl (ev_var rfl) (atI_nat (get_map hj2))) (ag_cons (ev_var rfl) (ag_cons (ev_var rfl) ag_nil)))))) ⟨s.i, s.j, fa + 1, fb, s.v, s.w, rfl, sv.mono (by decide), sw.mono (by decide), by omega, by omega, b0, by omega, rfl⟩) ?_)
        refine s_re (ρ' := [.s (ns.map V.int), .d (.int (k : Int)), .p, .d (.tuple (row.map encB)), .d (encWs ws), .d (.list (so.map encS)), .d (.tuple (wts.map encN)), .d (.int (row.length : Int)), .d (.tuple ((leastF wts (partsOf row.length so)).map encN)), .d (.list ((so.map swS).map encS)), .d (.list (cl.map encS)), .l ((wts.set s.i (fa + 1)).map encN), .d (encS (meeting s.i s.j (fa + 1) fb s.v s.w)), .u, .u, .d (.int (s.i : Int)), .d (.int (s.j : Int)), .d (encR s.v), .d (encR s.w), .d (encR s.v2), .d (encR s.w2), .u]) rfl ?_
        generalize hod : meeting s.i s.j (fa + 1) fb s.v s.w = od at hodd
        have odi : od.i = s.i := by rw [← hod]; rfl
        have odj : od.j = s.j := by rw [← hod]; rfl
        have hoddg : Good row.length od := hodd.good (by rw [List.length_set]; exact hWl)
        have hall : ∀ t ∈ so ++ [od], Good row.length t := fun t ht => by
          rcases List.mem_append.mp ht with ht | ht
          · exact hgood t ht
          · rw [List.mem_singleton.mp ht]; exact hoddg
        have hshne : s.sh ≠ od.sh := by
          obtain ⟨oa, ob, hof⟩ := hodd.facts
          have e1 : oa = fa + 1 := by
            have := hof.hi
            rw [odi, hi2] at this
            exact (Option.some.inj this).symm
          have e2 : ob = fb := by
            have := hof.hj
            rw [odj, hj2] at this
            exact (Option.some.inj this).symm
          rw [hf.sh, hof.sh, e1, e2]
          have p1 := natr_pos a0
          have p2 := natr_pos b0
          have e3 : ((fa + 1 : Nat) : Rat) = (fa : Rat) + 1 := by simp
          rw [e3]
          intro e
          have : (fb : Rat) * ((fa : Rat) + 1) = (fb : Rat) * (fa : Rat) := by grind
          grind
        have ecat : ∀ {ρ : List Sl}, ρ[5]? = some (.d (.list (so.map encS))) → ρ[12]? = some (.d (encS od)) → Ev K (fun b => b = pa) (tOp rCat (tVar 5) (tLst (tCons (tVar 12) tNil))) ρ (.list ((so ++ [od]).map encS)) := fun h1 h2 => EL.ev (by
          rw [List.map_append]
          exact el_op (ev_var h1) (EL.ev (el_lst (ag_cons (ev_var h2) ag_nil))) (ol_cat (by rw [List.length_map]; simp; omega)))
        refine s_seq (s_setP (P := fun d => ∃ rg : List Pr2, d = .tuple [.str "ring", .list (rg.map encP)] ∧ IsRing (so ++ [od]) rg ∧ rg.length ≤ 50) (evN_N (ag_cons (ev_var rfl) (ag_cons (ecat rfl rfl) ag_nil)) fun ds e => ?_) ?_)
        · subst e
          refine ⟨_, ⟨row.length, so ++ [od], fun k _ => k ≠ s.i, rfl, by omega, by rw [List.length_append, List.length_singleton]; omega, hall, fun b l c _ hp => odd_part (s := s) (t := od) (List.mem_append_left _ hs8) (List.mem_append_right _ List.mem_cons_self) odi.symm odj.symm hshne hp, rfl⟩, fun d hd => ?_⟩
          rcases hd with ⟨b, l, c, rg, _, hp, rfl⟩ | ⟨vals, hv, _⟩
          · exact ⟨rg, rfl, hp.rg rg rfl⟩
          · exact absurd rfl (hv s.i (by rw [← hWl]; exact hil))
        rintro d ⟨rg, rfl, hrg, hrl⟩
        refine s_ifF (te_or (c := false) (e := false) (te_test (ev_op (ev_op (ev_var (d := .tuple [.str "ring", .list (rg.map encP)]) rfl) ev_int (od_ixT rfl)) ev_str od_neS)) fun _ => te_not (c := true) (te_val (ev_fn (ag_cons (ev_var rfl) (ag_cons (ecat rfl rfl) (ag_cons (ev_op (ev_var (d := .tuple [.str "ring", .list (rg.map encP)]) rfl) ev_int (od_ixT rfl)) ag_nil))) ⟨row.length, so ++ [od], rg, rfl, hall, by omega, hrg, rfl⟩))) (s_next ⟨_, rfl, rfl⟩)
      · rintro ρ' rfl
        exact s_ret ev_bl ⟨_, rfl, rfl⟩
    · subst ed
      rw [rv.bl_]
      exact qq H'
end
end K57
/-! HE: what else the head must tell: own errors -/
namespace K57
open PySem PySem.Spec PyProof.Rows L2 PD M
def oexB (K : PySem.W.Frag) (C : Addr) : Bool := match K.lookup C with
  | some ⟨.type "type", _, .cls cd, sl⟩ => (match cd.mro, sl.toList with
    | .ref C' :: bm, [_, _, _, _, some (.builtin n), _] => C' == C && n == "ValueError.__new__" && !cd.hasDel && cd.hasDict && PySem.HandSPX.refsVE bm
    | _, _ => false)
  | _ => false
theorem oexB_ok {K : PySem.W.Frag} {C : Addr} (q : oexB K C = true) : ∃ nm q N bs bm sn sub ab col dd k0 k1 k2 k3 k5, K.lookup C = some (excClassObj nm q C N bs bm true sn sub ab col dd k0 k1 k2 k3 k5 "ValueError.__new__") ∧ PySem.HandSPX.refsVE bm = true := by
  unfold oexB at q
  split at q
  · rename_i dd cd sl ho
    split at q
    · rename_i C' bm k0 k1 k2 k3 n k5 hm hs
      simp only [Bool.and_eq_true, beq_iff_eq, Bool.not_eq_true'] at q
      obtain ⟨⟨⟨⟨rfl, rfl⟩, hdel⟩, hdict⟩, ht⟩ := q
      obtain ⟨nm, bs, mro, ns, qn, hd, sn, sub, ab, col, del⟩ := cd
      dsimp only at hm hdel hdict
      subst hm hdel hdict
      have hsl : sl = #[k0, k1, k2, k3, some (.builtin "ValueError.__new__"), k5] := by
        obtain ⟨l⟩ := sl
        simp only at hs
        rw [hs]
      subst hsl
      exact ⟨nm, qn, ns, bs, bm, sn, sub, ab, col, dd, k0, k1, k2, k3, k5, ho, ht⟩
    · cases q
  · cases q
end K57
set_option maxHeartbeats 0
/-! H1: the head's run -/
namespace K57
open PySem PySem.Spec PyProof.Rows L2
def fn0 : List He.DefD := [
⟨("Together", some "__init__"), "__init__", "Together.__init__", defArgs (inClass (top 3) 0), defBody (inClass (top 3) 0), defScope (inClass (top 3) 0), [], []⟩,
⟨("Shut", some "__init__"), "__init__", "Shut.__init__", defArgs (inClass (top 4) 0), defBody (inClass (top 4) 0), defScope (inClass (top 4) 0), [], []⟩,
⟨("is_whole", none), "is_whole", "is_whole", defArgs (top 6), defBody (top 6), defScope (top 6), [], []⟩,
⟨("divisor_of", none), "divisor_of", "divisor_of", defArgs (top 7), defBody (top 7), defScope (top 7), [], []⟩,
⟨("ratio", none), "ratio", "ratio", defArgs (top 8), defBody (top 8), defScope (top 8), [.int 1], []⟩,
⟨("plus", none), "plus", "plus", defArgs (top 9), defBody (top 9), defScope (top 9), [], []⟩,
⟨("minus", none), "minus", "minus", defArgs (top 10), defBody (top 10), defScope (top 10), [], []⟩,
⟨("times", none), "times", "times", defArgs (top 11), defBody (top 11), defScope (top 11), [], []⟩]
def fn1 : List He.DefD := [
⟨("over", none), "over", "over", defArgs (top 12), defBody (top 12), defScope (top 12), [], []⟩,
⟨("less", none), "less", "less", defArgs (top 13), defBody (top 13), defScope (top 13), [], []⟩,
⟨("changes", none), "changes", "changes", defArgs (top 17), defBody (top 17), defScope (top 17), [], []⟩,
⟨("is_rebound", none), "is_rebound", "is_rebound", defArgs (top 18), defBody (top 18), defScope (top 18), [], []⟩,
⟨("share_of", none), "share_of", "share_of", defArgs (top 19), defBody (top 19), defScope (top 19), [], []⟩,
⟨("is_done", none), "is_done", "is_done", defArgs (top 20), defBody (top 20), defScope (top 20), [], []⟩,
⟨("does_all", none), "does_all", "does_all", defArgs (top 21), defBody (top 21), defScope (top 21), [], []⟩,
⟨("turned_over", none), "turned_over", "turned_over", defArgs (top 22), defBody (top 22), defScope (top 22), [], []⟩]
def fn2 : List He.DefD := [
⟨("steps_from", none), "steps_from", "steps_from", defArgs (top 23), defBody (top 23), defScope (top 23), [], []⟩,
⟨("Part", some "__init__"), "__init__", "Part.__init__", defArgs (inClass (top 24) 0), defBody (inClass (top 24) 0), defScope (inClass (top 24) 0), [], []⟩,
⟨("Part", some "joined"), "joined", "Part.joined", defArgs (inClass (top 24) 1), defBody (inClass (top 24) 1), defScope (inClass (top 24) 1), [], []⟩,
⟨("Part", some "way_home"), "way_home", "Part.way_home", defArgs (inClass (top 24) 2), defBody (inClass (top 24) 2), defScope (inClass (top 24) 2), [], []⟩,
⟨("Part", some "way_to"), "way_to", "Part.way_to", defArgs (inClass (top 24) 3), defBody (inClass (top 24) 3), defScope (inClass (top 24) 3), [], []⟩,
⟨("Part", some "whole"), "whole", "Part.whole", defArgs (inClass (top 24) 4), defBody (inClass (top 24) 4), defScope (inClass (top 24) 4), [], []⟩,
⟨("weights_of", none), "weights_of", "weights_of", defArgs (top 25), defBody (top 25), defScope (top 25), [], []⟩,
⟨("step_by", none), "step_by", "step_by", defArgs (top 26), defBody (top 26), defScope (top 26), [], []⟩]
def fn3 : List He.DefD := [
⟨("lets_ring", none), "lets_ring", "lets_ring", defArgs (top 27), defBody (top 27), defScope (top 27), [], []⟩,
⟨("place_at", none), "place_at", "place_at", defArgs (top 34), defBody (top 34), defScope (top 34), [], []⟩,
⟨("gone_on", none), "gone_on", "gone_on", defArgs (top 35), defBody (top 35), defScope (top 35), [], []⟩,
⟨("walls_at", none), "walls_at", "walls_at", defArgs (top 36), defBody (top 36), defScope (top 36), [], []⟩,
⟨("meeting_moment", none), "meeting_moment", "meeting_moment", defArgs (top 38), defBody (top 38), defScope (top 38), [], []⟩,
⟨("least_moment", none), "least_moment", "least_moment", defArgs (top 39), defBody (top 39), defScope (top 39), [], []⟩,
⟨("shut_moment", none), "shut_moment", "shut_moment", defArgs (top 40), defBody (top 40), defScope (top 40), [], []⟩,
⟨("wall_there", none), "wall_there", "wall_there", defArgs (top 41), defBody (top 41), defScope (top 41), [], []⟩]
def fn4 : List He.DefD := [
⟨("wall_named", none), "wall_named", "wall_named", defArgs (top 42), defBody (top 42), defScope (top 42), [], []⟩,
⟨("comes_to", none), "comes_to", "comes_to", defArgs (top 43), defBody (top 43), defScope (top 43), [], []⟩,
⟨("groups_at", none), "groups_at", "groups_at", defArgs (top 44), defBody (top 44), defScope (top 44), [], []⟩,
⟨("rising", none), "rising", "rising", defArgs (top 45), defBody (top 45), defScope (top 45), [], []⟩,
⟨("two_speeds", none), "two_speeds", "two_speeds", defArgs (top 46), defBody (top 46), defScope (top 46), [], []⟩,
⟨("together_speeds", none), "together_speeds", "together_speeds", defArgs (top 47), defBody (top 47), defScope (top 47), [], []⟩,
⟨("rebounded", none), "rebounded", "rebounded", defArgs (top 48), defBody (top 48), defScope (top 48), [], []⟩,
⟨("next_coming", none), "next_coming", "next_coming", defArgs (top 49), defBody (top 49), defScope (top 49), [], []⟩]
def fn5 : List He.DefD := [
⟨("behind", none), "behind", "behind", defArgs (top 50), defBody (top 50), defScope (top 50), [], []⟩,
⟨("_law_cell", none), "_law_cell", "_law_cell", defArgs (top 52), defBody (top 52), defScope (top 52), [], []⟩,
⟨("_law_dig", none), "_law_dig", "_law_dig", defArgs (top 53), defBody (top 53), defScope (top 53), [], []⟩,
⟨("_law_next", none), "_law_next", "_law_next", defArgs (top 54), defBody (top 54), defScope (top 54), [], []⟩,
⟨("_law_lowest", none), "_law_lowest", "_law_lowest", defArgs (top 55), defBody (top 55), defScope (top 55), [], []⟩,
⟨("_law_far", none), "_law_far", "_law_far", defArgs (top 56), defBody (top 56), defScope (top 56), [], []⟩,
⟨("_law_ratio", none), "_law_ratio", "_law_ratio", defArgs (top 57), defBody (top 57), defScope (top 57), [], []⟩,
⟨("_law_row", none), "_law_row", "_law_row", defArgs (top 58), defBody (top 58), defScope (top 58), [], []⟩]
def fn6 : List He.DefD := [
⟨("_law_less", none), "_law_less", "_law_less", defArgs (top 59), defBody (top 59), defScope (top 59), [], []⟩,
⟨("_law_sum", none), "_law_sum", "_law_sum", defArgs (top 60), defBody (top 60), defScope (top 60), [], []⟩,
⟨("_law_product", none), "_law_product", "_law_product", defArgs (top 61), defBody (top 61), defScope (top 61), [], []⟩,
⟨("_law_bound", none), "_law_bound", "_law_bound", defArgs (top 62), defBody (top 62), defScope (top 62), [], []⟩,
⟨("_law_bounds", none), "_law_bounds", "_law_bounds", defArgs (top 63), defBody (top 63), defScope (top 63), [], []⟩,
⟨("_law_minus", none), "_law_minus", "_law_minus", defArgs (top 64), defBody (top 64), defScope (top 64), [], []⟩,
⟨("_law_meeting", none), "_law_meeting", "_law_meeting", defArgs (top 65), defBody (top 65), defScope (top 65), [], []⟩,
⟨("_law_sighting", none), "_law_sighting", "_law_sighting", defArgs (top 66), defBody (top 66), defScope (top 66), [], []⟩]
def fn7 : List He.DefD := [
⟨("_law_weights", none), "_law_weights", "_law_weights", defArgs (top 67), defBody (top 67), defScope (top 67), [], []⟩,
⟨("_law_share", none), "_law_share", "_law_share", defArgs (top 68), defBody (top 68), defScope (top 68), [], []⟩,
⟨("_law_does", none), "_law_does", "_law_does", defArgs (top 69), defBody (top 69), defScope (top 69), [], []⟩,
⟨("_law_parts", none), "_law_parts", "_law_parts", defArgs (top 70), defBody (top 70), defScope (top 70), [], []⟩,
⟨("_law_common", none), "_law_common", "_law_common", defArgs (top 71), defBody (top 71), defScope (top 71), [], []⟩,
⟨("_law_least", none), "_law_least", "_law_least", defArgs (top 72), defBody (top 72), defScope (top 72), [], []⟩,
⟨("_law_seen", none), "_law_seen", "_law_seen", defArgs (top 73), defBody (top 73), defScope (top 73), [], []⟩,
⟨("_law_watched", none), "_law_watched", "_law_watched", defArgs (top 74), defBody (top 74), defScope (top 74), [], []⟩]
def fn8 : List He.DefD := [
⟨("law", none), "law", "law", defArgs (top 75), defBody (top 75), defScope (top 75), [], []⟩]
def fn : List He.DefD := fn0 ++ fn1 ++ fn2 ++ fn3 ++ fn4 ++ fn5 ++ fn6 ++ fn7 ++ fn8
def fa0 : List He.Fa := [.glo "is_whole", .glo "divisor_of", .glo "ratio", .glo "plus", .glo "minus", .glo "times", .glo "over", .glo "less", .glo "changes", .glo "is_rebound"]
def fa1 : List He.Fa := [.glo "share_of", .glo "is_done", .glo "does_all", .glo "turned_over", .glo "steps_from", .glo "weights_of", .glo "step_by", .glo "lets_ring", .glo "place_at", .glo "gone_on"]
def fa2 : List He.Fa := [.glo "walls_at", .glo "meeting_moment", .glo "least_moment", .glo "shut_moment", .glo "wall_there", .glo "wall_named", .glo "comes_to", .glo "groups_at", .glo "rising", .glo "two_speeds"]
def fa3 : List He.Fa := [.glo "together_speeds", .glo "rebounded", .glo "next_coming", .glo "behind", .glo "_law_cell", .glo "_law_dig", .glo "_law_next", .glo "_law_lowest", .glo "_law_far", .glo "_law_ratio"]
def fa4 : List He.Fa := [.glo "_law_row", .glo "_law_less", .glo "_law_sum", .glo "_law_product", .glo "_law_bound", .glo "_law_bounds", .glo "_law_minus", .glo "_law_meeting", .glo "_law_sighting", .glo "_law_weights"]
def fa5 : List He.Fa := [.glo "_law_share", .glo "_law_does", .glo "_law_parts", .glo "_law_common", .glo "_law_least", .glo "_law_seen", .glo "_law_watched", .glo "law", .glo "Part", .glo "Together"]
def fa6 : List He.Fa := [.glo "Shut", .glo "NOUGHT", .glo "ONE", .free "len", .free "abs", .free "all", .free "any", .free "max", .free "min", .free "isinstance"]
def fa7 : List He.Fa := [.free "tuple", .free "list", .free "int", .free "bool", .free "range", .free "enumerate", .free "zip", .int "PLACE" 0, .int "SPEED" 1, .int "WEIGHT" 2]
def fa8 : List He.Fa := [.int "LOW" 0, .int "HIGH" 1, .cls "Part", .noat "Part" "sightings", .noat "Part" "weights", .noat "Part" "came", .noat "Part" "ring", .meth "Part" "joined", .meth "Part" "way_home", .meth "Part" "way_to"]
def fa9 : List He.Fa := [.meth "Part" "whole", .mkr "Part", .exm "Together" "Together" true, .exm "Together" "Shut" false, .exm "Shut" "Together" false, .exm "Shut" "Shut" true, .noat "Together" "moment", .noat "Shut" "moment", .meth "Together" "__init__", .meth "Shut" "__init__"]
def fa10 : List He.Fa := [.keep "Together", .keep "Shut"]
def fa : List He.Fa := fa0 ++ fa1 ++ fa2 ++ fa3 ++ fa4 ++ fa5 ++ fa6 ++ fa7 ++ fa8 ++ fa9 ++ fa10
def exo1 (K : PySem.W.Frag) (x : Str) : Bool := oexB K (He.ga K x) && (He.eqO (PySem.W.findIn K (.ref (He.ga K x)) "__setattr__") (some (some (.builtin "object.__setattr__"))) && (decide (PySem.W.subIn K (.ref (He.ga K x)) (.type "BaseException") = some true) && (decide (PySem.W.typeIn K (.ref (He.ga K x)) = some (.type "type")) && decide (PySem.W.typeIn K (.ref (He.ma K (He.ga K x) "__init__")) = some (.type "function")))))
def exK (K : PySem.W.Frag) : Bool := He.tupB K "NOUGHT" [.int 0, .int 1] && (He.tupB K "ONE" [.int 1, .int 1] && (exo1 K "Together" && exo1 K "Shut"))
abbrev R : PySem.W.OpenRow := PySem.W.OpenLaw.row PySem.Challenge.rw_clackrow_k57_whole_weights_seen_in_runs
abbrev hk : PySem.W.Hook := He.hookX 5 fa fn [] [] exK
def ob (s : PySem.W.SharedT) : He.AlX := He.obsX 5 fa fn [] [] exK (HandSHeadRun.getT s)
theorem ob_eq (s : PySem.W.SharedT) : ob s = hk.obs s.abs := He.obsX_eq (HandSHeadRun.getT_eq s)
def loose0 : List Str := [("ClackError" : Str), ("NoRatio" : Str), ("Together" : Str), ("Shut" : Str), ("is_whole" : Str), ("divisor_of" : Str), ("ratio" : Str), ("plus" : Str), ("minus" : Str), ("times" : Str), ("over" : Str), ("less" : Str)]
def loose1 : List Str := [("NOUGHT" : Str), ("ONE" : Str), ("changes" : Str), ("is_rebound" : Str), ("share_of" : Str), ("is_done" : Str), ("does_all" : Str), ("turned_over" : Str), ("steps_from" : Str), ("Part" : Str), ("weights_of" : Str), ("step_by" : Str)]
def loose2 : List Str := [("lets_ring" : Str), ("PLACE" : Str), ("SPEED" : Str), ("WEIGHT" : Str), ("LOW" : Str), ("HIGH" : Str), ("place_at" : Str), ("gone_on" : Str), ("walls_at" : Str), ("meeting_moment" : Str), ("least_moment" : Str), ("shut_moment" : Str)]
def loose3 : List Str := [("wall_there" : Str), ("wall_named" : Str), ("comes_to" : Str), ("groups_at" : Str), ("rising" : Str), ("two_speeds" : Str), ("together_speeds" : Str), ("rebounded" : Str), ("next_coming" : Str), ("behind" : Str), ("_law_cell" : Str), ("_law_dig" : Str)]
def loose4 : List Str := [("_law_next" : Str), ("_law_lowest" : Str), ("_law_far" : Str), ("_law_ratio" : Str), ("_law_row" : Str), ("_law_less" : Str), ("_law_sum" : Str), ("_law_product" : Str), ("_law_bound" : Str), ("_law_bounds" : Str), ("_law_minus" : Str), ("_law_meeting" : Str)]
def loose5 : List Str := [("_law_sighting" : Str), ("_law_weights" : Str), ("_law_share" : Str), ("_law_does" : Str), ("_law_parts" : Str), ("_law_common" : Str), ("_law_least" : Str), ("_law_seen" : Str), ("_law_watched" : Str)]
def loose : List Str := loose0 ++ loose1 ++ loose2 ++ loose3 ++ loose4 ++ loose5
theorem run (w : World) : HandSHeadRun.RunEq R (PySem.W.view R.prog [75]) hk ob 6000 loose w := by
  intro os
  kernel_rfl
end K57
set_option maxHeartbeats 4000000
/-! H2: every def keeps its promise, by the head's facts -/
namespace K57
open PySem PySem.Spec PyProof.Rows L2 PD M
theorem sc_Together : FnScope ["self", "moment"] ["self", "moment"] (defScope (inClass (top 3) 0)) := ⟨rfl, rfl, rfl, by decide +kernel, rfl, by decide +kernel, by decide +kernel⟩
theorem sc_Shut : FnScope ["self", "moment"] ["self", "moment"] (defScope (inClass (top 4) 0)) := ⟨rfl, rfl, rfl, by decide +kernel, rfl, by decide +kernel, by decide +kernel⟩
theorem law_facts {P : Program} {w : World} {K : PySem.W.Frag} {h : Heap} {mg : Str → Option Value} (X : K.In h) (G : h.Ns mainGlobals mg) (d : He.SaysD fa fn K) (ex : exK K = true) : ∃ fd : FuncData, (∀ (s : Shared) (u : Value), BindsTo s fd ⟨[u], []⟩ [("_law_script", u)]) ∧ ∀ base : Heap, FnOk P w K mg base CX0 11 (He.ga K "law") fd ["_law_script"] (spLaw K) := by
  obtain ⟨ex1, ex⟩ := He.ba ex
  obtain ⟨ex2, ex⟩ := He.ba ex
  obtain ⟨ex3, ex4⟩ := He.ba ex
  obtain ⟨fd_law, F_law⟩ : ∃ fd, FunD K "law" "law" (defArgs (top 75)) (defBody (top 75)) (defScope (top 75)) [] [] (He.ga K "law") fd := d.def_ 64 rfl
  refine ⟨fd_law, fun s u => FunD.bindsA (ps := ["_law_script"]) F_law (fun _ _ _ _ _ _ us hl => match us, hl with | [_], _ => rfl) s [u] rfl, fun base => ?_⟩
  have T : Txt K mg (He.ga K "NOUGHT") (He.ga K "ONE") := ⟨He.int_ok X G (d.fact 77 (f := .int "PLACE" 0) rfl), He.int_ok X G (d.fact 78 (f := .int "SPEED" 1) rfl), He.int_ok X G (d.fact 79 (f := .int "WEIGHT" 2) rfl), He.int_ok X G (d.fact 80 (f := .int "LOW" 0) rfl), He.int_ok X G (d.fact 81 (f := .int "HIGH" 1) rfl), He.glo_ok X G (d.fact 61 (f := .glo "NOUGHT") rfl), He.glo_ok X G (d.fact 62 (f := .glo "ONE") rfl), He.tupB_ok ex1, He.tupB_ok ex2, He.free_ok X G (d.fact 63 (f := .free "len") rfl), He.free_ok X G (d.fact 64 (f := .free "abs") rfl), He.free_ok X G (d.fact 65 (f := .free "all") rfl), He.free_ok X G (d.fact 66 (f := .free "any") rfl), He.free_ok X G (d.fact 67 (f := .free "max") rfl), He.free_ok X G (d.fact 68 (f := .free "min") rfl), He.free_ok X G (d.fact 69 (f := .free "isinstance") rfl), He.free_ok X G (d.fact 70 (f := .free "tuple") rfl), He.free_ok X G (d.fact 71 (f := .free "list") rfl), He.free_ok X G (d.fact 72 (f := .free "int") rfl), He.free_ok X G (d.fact 73 (f := .free "bool") rfl), He.free_ok X G (d.fact 74 (f := .free "range") rfl), He.free_ok X G (d.fact 75 (f := .free "enumerate") rfl), He.free_ok X G (d.fact 76 (f := .free "zip") rfl)⟩
  have PC : PCls K (He.ga K "Part") := ⟨He.cls_ok (d.fact 82 (f := .cls "Part") rfl), He.noat_ok (d.fact 83 (f := .noat "Part" "sightings") rfl), He.noat_ok (d.fact 84 (f := .noat "Part" "weights") rfl), He.noat_ok (d.fact 85 (f := .noat "Part" "came") rfl), He.noat_ok (d.fact 86 (f := .noat "Part" "ring") rfl)⟩
  obtain ⟨Together_a, Together_b⟩ := He.ba ex3
  obtain ⟨Together_c, Together_b⟩ := He.ba Together_b
  obtain ⟨Together_d, Together_b⟩ := He.ba Together_b
  obtain ⟨Together_e, Together_f⟩ := He.ba Together_b
  have O_Together : OexC K (He.ga K "Together") := ⟨oexB_ok Together_a, He.eqO_ok Together_c, of_decide_eq_true Together_d, of_decide_eq_true Together_e, He.keep_ok (d.fact 100 (f := .keep "Together") rfl)⟩
  obtain ⟨fd_Together, F_Together⟩ : ∃ fd, FunD K "__init__" "Together.__init__" (defArgs (inClass (top 3) 0)) (defBody (inClass (top 3) 0)) (defScope (inClass (top 3) 0)) [] [] (He.ma K (He.ga K "Together") "__init__") fd := d.def_ 0 rfl
  have M_Together := He.meth_ok (d.fact 98 (f := .meth "Together" "__init__") rfl)
  have X_Together : ExC P w K mg base "Together" (He.ga K "Together") := ⟨O_Together, He.glo_ok X G (d.fact 59 (f := .glo "Together") rfl), _, fd_Together, M_Together.at_, of_decide_eq_true Together_f, FunD.bindsN (ps := ["self", "moment"]) F_Together (fun _ _ _ _ _ _ us hl => match us, hl with | [_, _], _ => rfl), ok_ini O_Together (He.noat_ok (d.fact 96 (f := .noat "Together" "moment") rfl)) sc_Together rfl rfl F_Together⟩
  obtain ⟨Shut_a, Shut_b⟩ := He.ba ex4
  obtain ⟨Shut_c, Shut_b⟩ := He.ba Shut_b
  obtain ⟨Shut_d, Shut_b⟩ := He.ba Shut_b
  obtain ⟨Shut_e, Shut_f⟩ := He.ba Shut_b
  have O_Shut : OexC K (He.ga K "Shut") := ⟨oexB_ok Shut_a, He.eqO_ok Shut_c, of_decide_eq_true Shut_d, of_decide_eq_true Shut_e, He.keep_ok (d.fact 101 (f := .keep "Shut") rfl)⟩
  obtain ⟨fd_Shut, F_Shut⟩ : ∃ fd, FunD K "__init__" "Shut.__init__" (defArgs (inClass (top 4) 0)) (defBody (inClass (top 4) 0)) (defScope (inClass (top 4) 0)) [] [] (He.ma K (He.ga K "Shut") "__init__") fd := d.def_ 1 rfl
  have M_Shut := He.meth_ok (d.fact 99 (f := .meth "Shut" "__init__") rfl)
  have X_Shut : ExC P w K mg base "Shut" (He.ga K "Shut") := ⟨O_Shut, He.glo_ok X G (d.fact 60 (f := .glo "Shut") rfl), _, fd_Shut, M_Shut.at_, of_decide_eq_true Shut_f, FunD.bindsN (ps := ["self", "moment"]) F_Shut (fun _ _ _ _ _ _ us hl => match us, hl with | [_, _], _ => rfl), ok_ini O_Shut (He.noat_ok (d.fact 97 (f := .noat "Shut" "moment") rfl)) sc_Shut rfl rfl F_Shut⟩
  have hT : PySem.W.exmAny K (.ref (He.ga K "Together")) [.ref (He.ga K "Together"), .ref (He.ga K "Shut")] = some true := by
    unfold PySem.W.exmAny PySem.W.exmAny PySem.W.exmAny
    rw [He.exm_ok (d.fact 92 (f := .exm "Together" "Together" true) rfl), He.exm_ok (d.fact 93 (f := .exm "Together" "Shut" false) rfl)]
    rfl
  have hS : PySem.W.exmAny K (.ref (He.ga K "Shut")) [.ref (He.ga K "Together"), .ref (He.ga K "Shut")] = some true := by
    unfold PySem.W.exmAny PySem.W.exmAny PySem.W.exmAny
    rw [He.exm_ok (d.fact 94 (f := .exm "Shut" "Together" false) rfl), He.exm_ok (d.fact 95 (f := .exm "Shut" "Shut" true) rfl)]
    rfl
  have He_gT : mg "Together" = some (.ref (He.ga K "Together")) := He.glo_ok X G (d.fact 59 (f := .glo "Together") rfl)
  have He_gS : mg "Shut" = some (.ref (He.ga K "Shut")) := He.glo_ok X G (d.fact 60 (f := .glo "Shut") rfl)
  obtain ⟨fd_is_whole, F_is_whole⟩ : ∃ fd, FunD K "is_whole" "is_whole" (defArgs (top 6)) (defBody (top 6)) (defScope (top 6)) [] [] (He.ga K "is_whole") fd := d.def_ 2 rfl
  have O_is_whole : FnOk P w K mg base CX0 1 (He.ga K "is_whole") fd_is_whole ["thing"] (spF K R_is_whole) := ok_is_whole T F_is_whole
  have C_is_whole : Cal P w K mg base CX0 1 "is_whole" ["thing"] [] (spF K R_is_whole) := ⟨_, fd_is_whole, [], He.glo_ok X G (d.fact 0 (f := .glo "is_whole") rfl), F_is_whole.kp, FunD.bindsN (ps := ["thing"]) F_is_whole (fun _ _ _ _ _ _ us hl => match us, hl with | [_], _ => rfl), .nil, O_is_whole⟩
  obtain ⟨fd_divisor_of, F_divisor_of⟩ : ∃ fd, FunD K "divisor_of" "divisor_of" (defArgs (top 7)) (defBody (top 7)) (defScope (top 7)) [] [] (He.ga K "divisor_of") fd := d.def_ 3 rfl
  have O_divisor_of : FnOk P w K mg base CX0 1 (He.ga K "divisor_of") fd_divisor_of ["one", "other"] (spF K R_divisor_of) := ok_divisor_of T F_divisor_of
  have C_divisor_of : Cal P w K mg base CX0 1 "divisor_of" ["one", "other"] [] (spF K R_divisor_of) := ⟨_, fd_divisor_of, [], He.glo_ok X G (d.fact 1 (f := .glo "divisor_of") rfl), F_divisor_of.kp, FunD.bindsN (ps := ["one", "other"]) F_divisor_of (fun _ _ _ _ _ _ us hl => match us, hl with | [_, _], _ => rfl), .nil, O_divisor_of⟩
  obtain ⟨fd_less, F_less⟩ : ∃ fd, FunD K "less" "less" (defArgs (top 13)) (defBody (top 13)) (defScope (top 13)) [] [] (He.ga K "less") fd := d.def_ 9 rfl
  have O_less : FnOk P w K mg base CX0 1 (He.ga K "less") fd_less ["one", "other"] (spF K R_less) := ok_less T F_less
  have C_less : Cal P w K mg base CX0 1 "less" ["one", "other"] [] (spF K R_less) := ⟨_, fd_less, [], He.glo_ok X G (d.fact 7 (f := .glo "less") rfl), F_less.kp, FunD.bindsN (ps := ["one", "other"]) F_less (fun _ _ _ _ _ _ us hl => match us, hl with | [_, _], _ => rfl), .nil, O_less⟩
  obtain ⟨fd_Part_way_home, F_Part_way_home⟩ : ∃ fd, FunD K "way_home" "Part.way_home" (defArgs (inClass (top 24) 2)) (defBody (inClass (top 24) 2)) (defScope (inClass (top 24) 2)) [] [] (He.ma K (He.ga K "Part") "way_home") fd := d.def_ 19 rfl
  have O_Part_way_home : FnOk P w K mg base CX0 1 (He.ma K (He.ga K "Part") "way_home") fd_Part_way_home ["self", "ball"] (spRO K (He.ga K "Part") R_home) := ok_Part_way_home T PC F_Part_way_home
  have MC_way_home : MCal P w K mg base CX0 1 (He.ga K "Part") "way_home" ["self", "ball"] (spRO K (He.ga K "Part") R_home) := ⟨_, fd_Part_way_home, He.meth_ok (d.fact 88 (f := .meth "Part" "way_home") rfl), FunD.bindsN (ps := ["self", "ball"]) F_Part_way_home (fun _ _ _ _ _ _ us hl => match us, hl with | [_, _], _ => rfl), O_Part_way_home⟩
  obtain ⟨fd_wall_there, F_wall_there⟩ : ∃ fd, FunD K "wall_there" "wall_there" (defArgs (top 41)) (defBody (top 41)) (defScope (top 41)) [] [] (He.ga K "wall_there") fd := d.def_ 31 rfl
  have O_wall_there : FnOk P w K mg base CX0 1 (He.ga K "wall_there") fd_wall_there ["walls", "place"] (spF K R_wall_there) := ok_wall_there T F_wall_there
  have C_wall_there : Cal P w K mg base CX0 1 "wall_there" ["walls", "place"] [] (spF K R_wall_there) := ⟨_, fd_wall_there, [], He.glo_ok X G (d.fact 24 (f := .glo "wall_there") rfl), F_wall_there.kp, FunD.bindsN (ps := ["walls", "place"]) F_wall_there (fun _ _ _ _ _ _ us hl => match us, hl with | [_, _], _ => rfl), .nil, O_wall_there⟩
  obtain ⟨fd_wall_named, F_wall_named⟩ : ∃ fd, FunD K "wall_named" "wall_named" (defArgs (top 42)) (defBody (top 42)) (defScope (top 42)) [] [] (He.ga K "wall_named") fd := d.def_ 32 rfl
  have O_wall_named : FnOk P w K mg base CX0 1 (He.ga K "wall_named") fd_wall_named ["walls", "where"] (spF K R_wall_named) := ok_wall_named T F_wall_named
  have C_wall_named : Cal P w K mg base CX0 1 "wall_named" ["walls", "where"] [] (spF K R_wall_named) := ⟨_, fd_wall_named, [], He.glo_ok X G (d.fact 25 (f := .glo "wall_named") rfl), F_wall_named.kp, FunD.bindsN (ps := ["walls", "where"]) F_wall_named (fun _ _ _ _ _ _ us hl => match us, hl with | [_, _], _ => rfl), .nil, O_wall_named⟩
  obtain ⟨fd__law_cell, F__law_cell⟩ : ∃ fd, FunD K "_law_cell" "_law_cell" (defArgs (top 52)) (defBody (top 52)) (defScope (top 52)) [] [] (He.ga K "_law_cell") fd := d.def_ 41 rfl
  have O__law_cell : FnOk P w K mg base CX0 1 (He.ga K "_law_cell") fd__law_cell ["_law_script", "_law_k"] (spCell K) := ok__law_cell T F__law_cell
  have C__law_cell : Cal P w K mg base CX0 1 "_law_cell" ["_law_script", "_law_k"] [] (spCell K) := ⟨_, fd__law_cell, [], He.glo_ok X G (d.fact 34 (f := .glo "_law_cell") rfl), F__law_cell.kp, FunD.bindsN (ps := ["_law_script", "_law_k"]) F__law_cell (fun _ _ _ _ _ _ us hl => match us, hl with | [_, _], _ => rfl), .nil, O__law_cell⟩
  obtain ⟨fd__law_dig, F__law_dig⟩ : ∃ fd, FunD K "_law_dig" "_law_dig" (defArgs (top 53)) (defBody (top 53)) (defScope (top 53)) [] [] (He.ga K "_law_dig") fd := d.def_ 42 rfl
  have O__law_dig : FnOk P w K mg base CX0 1 (He.ga K "_law_dig") fd__law_dig ["_law_cell_here"] (spDig K) := ok__law_dig T F__law_dig
  have C__law_dig : Cal P w K mg base CX0 1 "_law_dig" ["_law_cell_here"] [] (spDig K) := ⟨_, fd__law_dig, [], He.glo_ok X G (d.fact 35 (f := .glo "_law_dig") rfl), F__law_dig.kp, FunD.bindsN (ps := ["_law_cell_here"]) F__law_dig (fun _ _ _ _ _ _ us hl => match us, hl with | [_], _ => rfl), .nil, O__law_dig⟩
  obtain ⟨fd__law_next, F__law_next⟩ : ∃ fd, FunD K "_law_next" "_law_next" (defArgs (top 54)) (defBody (top 54)) (defScope (top 54)) [] [] (He.ga K "_law_next") fd := d.def_ 43 rfl
  have O__law_next : FnOk P w K mg base CX0 1 (He.ga K "_law_next") fd__law_next ["_law_pool", "_law_base"] (spP K P_next) := ok__law_next T F__law_next
  have C__law_next : Cal P w K mg base CX0 1 "_law_next" ["_law_pool", "_law_base"] [] (spP K P_next) := ⟨_, fd__law_next, [], He.glo_ok X G (d.fact 36 (f := .glo "_law_next") rfl), F__law_next.kp, FunD.bindsN (ps := ["_law_pool", "_law_base"]) F__law_next (fun _ _ _ _ _ _ us hl => match us, hl with | [_, _], _ => rfl), .nil, O__law_next⟩
  obtain ⟨fd__law_lowest, F__law_lowest⟩ : ∃ fd, FunD K "_law_lowest" "_law_lowest" (defArgs (top 55)) (defBody (top 55)) (defScope (top 55)) [] [] (He.ga K "_law_lowest") fd := d.def_ 44 rfl
  have O__law_lowest : FnOk P w K mg base CX0 1 (He.ga K "_law_lowest") fd__law_lowest ["_law_top", "_law_bottom"] (spF K R_lowest) := ok__law_lowest T F__law_lowest
  have C__law_lowest : Cal P w K mg base CX0 1 "_law_lowest" ["_law_top", "_law_bottom"] [] (spF K R_lowest) := ⟨_, fd__law_lowest, [], He.glo_ok X G (d.fact 37 (f := .glo "_law_lowest") rfl), F__law_lowest.kp, FunD.bindsN (ps := ["_law_top", "_law_bottom"]) F__law_lowest (fun _ _ _ _ _ _ us hl => match us, hl with | [_, _], _ => rfl), .nil, O__law_lowest⟩
  obtain ⟨fd__law_less, F__law_less⟩ : ∃ fd, FunD K "_law_less" "_law_less" (defArgs (top 59)) (defBody (top 59)) (defScope (top 59)) [] [] (He.ga K "_law_less") fd := d.def_ 48 rfl
  have O__law_less : FnOk P w K mg base CX0 1 (He.ga K "_law_less") fd__law_less ["_law_one", "_law_other"] (spF K R_less) := ok__law_less T F__law_less
  have C__law_less : Cal P w K mg base CX0 1 "_law_less" ["_law_one", "_law_other"] [] (spF K R_less) := ⟨_, fd__law_less, [], He.glo_ok X G (d.fact 41 (f := .glo "_law_less") rfl), F__law_less.kp, FunD.bindsN (ps := ["_law_one", "_law_other"]) F__law_less (fun _ _ _ _ _ _ us hl => match us, hl with | [_, _], _ => rfl), .nil, O__law_less⟩
  obtain ⟨fd__law_parts, F__law_parts⟩ : ∃ fd, FunD K "_law_parts" "_law_parts" (defArgs (top 70)) (defBody (top 70)) (defScope (top 70)) [] [] (He.ga K "_law_parts") fd := d.def_ 59 rfl
  have O__law_parts : FnOk P w K mg base CX0 1 (He.ga K "_law_parts") fd__law_parts ["_law_n", "_law_sightings"] (spF K R_parts) := ok__law_parts T F__law_parts
  have C__law_parts : Cal P w K mg base CX0 1 "_law_parts" ["_law_n", "_law_sightings"] [] (spF K R_parts) := ⟨_, fd__law_parts, [], He.glo_ok X G (d.fact 52 (f := .glo "_law_parts") rfl), F__law_parts.kp, FunD.bindsN (ps := ["_law_n", "_law_sightings"]) F__law_parts (fun _ _ _ _ _ _ us hl => match us, hl with | [_, _], _ => rfl), .nil, O__law_parts⟩
  obtain ⟨fd__law_common, F__law_common⟩ : ∃ fd, FunD K "_law_common" "_law_common" (defArgs (top 71)) (defBody (top 71)) (defScope (top 71)) [] [] (He.ga K "_law_common") fd := d.def_ 60 rfl
  have O__law_common : FnOk P w K mg base CX0 1 (He.ga K "_law_common") fd__law_common ["_law_some"] (spF K R_common) := ok__law_common T F__law_common
  have C__law_common : Cal P w K mg base CX0 1 "_law_common" ["_law_some"] [] (spF K R_common) := ⟨_, fd__law_common, [], He.glo_ok X G (d.fact 53 (f := .glo "_law_common") rfl), F__law_common.kp, FunD.bindsN (ps := ["_law_some"]) F__law_common (fun _ _ _ _ _ _ us hl => match us, hl with | [_], _ => rfl), .nil, O__law_common⟩
  obtain ⟨fd_ratio, F_ratio⟩ : ∃ fd, FunD K "ratio" "ratio" (defArgs (top 8)) (defBody (top 8)) (defScope (top 8)) [.int 1] [] (He.ga K "ratio") fd := d.def_ 4 rfl
  have O_ratio : FnOk P w K mg base CX0 2 (He.ga K "ratio") fd_ratio ["top", "bottom"] (spF K R_ratio) := ok_ratio T C_divisor_of C_is_whole F_ratio
  obtain ⟨ds2, v2, b2⟩ := FunD.binds1 (ps := ["top", "bottom"]) F_ratio 2 1 (by simp) rfl (fun T kV doc pm an cdv ct us its h1 h2 => match us, its, h1, h2 with | [_, _], [_], _, _ => ⟨_, rfl, rfl⟩)
  obtain ⟨ds1, v1, b1⟩ := FunD.binds1 (ps := ["top", "bottom"]) F_ratio 1 0 (by simp) rfl (fun T kV doc pm an cdv ct us its h1 h2 => match us, its, h1, h2 with | [_], [_], _, _ => ⟨_, rfl, rfl⟩)
  have C_ratio : Cal P w K mg base CX0 2 "ratio" ["top", "bottom"] [] (spF K R_ratio) := ⟨_, fd_ratio, ds2, He.glo_ok X G (d.fact 2 (f := .glo "ratio") rfl), F_ratio.kp, b2, v2, O_ratio⟩
  have C_ratio1 : Cal P w K mg base CX0 2 "ratio" ["top", "bottom"] [.int 1] (spF K R_ratio) := ⟨_, fd_ratio, ds1, He.glo_ok X G (d.fact 2 (f := .glo "ratio") rfl), F_ratio.kp, b1, v1, O_ratio⟩
  obtain ⟨fd_Part_way_to, F_Part_way_to⟩ : ∃ fd, FunD K "way_to" "Part.way_to" (defArgs (inClass (top 24) 3)) (defBody (inClass (top 24) 3)) (defScope (inClass (top 24) 3)) [] [] (He.ma K (He.ga K "Part") "way_to") fd := d.def_ 20 rfl
  have O_Part_way_to : FnOk P w K mg base CX0 2 (He.ma K (He.ga K "Part") "way_to") fd_Part_way_to ["self", "ball"] (spRO K (He.ga K "Part") R_way_to) := ok_Part_way_to T PC MC_way_home F_Part_way_to
  have MC_way_to : MCal P w K mg base CX0 2 (He.ga K "Part") "way_to" ["self", "ball"] (spRO K (He.ga K "Part") R_way_to) := ⟨_, fd_Part_way_to, He.meth_ok (d.fact 89 (f := .meth "Part" "way_to") rfl), FunD.bindsN (ps := ["self", "ball"]) F_Part_way_to (fun _ _ _ _ _ _ us hl => match us, hl with | [_, _], _ => rfl), O_Part_way_to⟩
  obtain ⟨fd_Part_whole, F_Part_whole⟩ : ∃ fd, FunD K "whole" "Part.whole" (defArgs (inClass (top 24) 4)) (defBody (inClass (top 24) 4)) (defScope (inClass (top 24) 4)) [] [] (He.ma K (He.ga K "Part") "whole") fd := d.def_ 21 rfl
  have O_Part_whole : FnOk P w K mg base CX0 2 (He.ma K (He.ga K "Part") "whole") fd_Part_whole ["self"] (spWhole K (He.ga K "Part")) := ok_Part_whole T PC C_divisor_of F_Part_whole
  have MC_whole : MCal P w K mg base CX0 2 (He.ga K "Part") "whole" ["self"] (spWhole K (He.ga K "Part")) := ⟨_, fd_Part_whole, He.meth_ok (d.fact 90 (f := .meth "Part" "whole") rfl), FunD.bindsN (ps := ["self"]) F_Part_whole (fun _ _ _ _ _ _ us hl => match us, hl with | [_], _ => rfl), O_Part_whole⟩
  obtain ⟨fd_comes_to, F_comes_to⟩ : ∃ fd, FunD K "comes_to" "comes_to" (defArgs (top 43)) (defBody (top 43)) (defScope (top 43)) [] [] (He.ga K "comes_to") fd := d.def_ 33 rfl
  have O_comes_to : FnOk P w K mg base CX0 2 (He.ga K "comes_to") fd_comes_to ["ball", "walls", "where"] (spF K R_comes_to) := ok_comes_to T C_less F_comes_to
  have C_comes_to : Cal P w K mg base CX0 2 "comes_to" ["ball", "walls", "where"] [] (spF K R_comes_to) := ⟨_, fd_comes_to, [], He.glo_ok X G (d.fact 26 (f := .glo "comes_to") rfl), F_comes_to.kp, FunD.bindsN (ps := ["ball", "walls", "where"]) F_comes_to (fun _ _ _ _ _ _ us hl => match us, hl with | [_, _, _], _ => rfl), .nil, O_comes_to⟩
  obtain ⟨fd_rising, F_rising⟩ : ∃ fd, FunD K "rising" "rising" (defArgs (top 45)) (defBody (top 45)) (defScope (top 45)) [] [] (He.ga K "rising") fd := d.def_ 35 rfl
  have O_rising : FnOk P w K mg base CX0 2 (He.ga K "rising") fd_rising ["ratios"] (spF K R_rising) := ok_rising T C_less F_rising
  have C_rising : Cal P w K mg base CX0 2 "rising" ["ratios"] [] (spF K R_rising) := ⟨_, fd_rising, [], He.glo_ok X G (d.fact 28 (f := .glo "rising") rfl), F_rising.kp, FunD.bindsN (ps := ["ratios"]) F_rising (fun _ _ _ _ _ _ us hl => match us, hl with | [_], _ => rfl), .nil, O_rising⟩
  obtain ⟨fd__law_far, F__law_far⟩ : ∃ fd, FunD K "_law_far" "_law_far" (defArgs (top 56)) (defBody (top 56)) (defScope (top 56)) [] [] (He.ga K "_law_far") fd := d.def_ 45 rfl
  have O__law_far : FnOk P w K mg base CX0 2 (He.ga K "_law_far") fd__law_far ["_law_pool"] (spP K P_far) := ok__law_far T C__law_next F__law_far
  have C__law_far : Cal P w K mg base CX0 2 "_law_far" ["_law_pool"] [] (spP K P_far) := ⟨_, fd__law_far, [], He.glo_ok X G (d.fact 38 (f := .glo "_law_far") rfl), F__law_far.kp, FunD.bindsN (ps := ["_law_pool"]) F__law_far (fun _ _ _ _ _ _ us hl => match us, hl with | [_], _ => rfl), .nil, O__law_far⟩
  obtain ⟨fd__law_sum, F__law_sum⟩ : ∃ fd, FunD K "_law_sum" "_law_sum" (defArgs (top 60)) (defBody (top 60)) (defScope (top 60)) [] [] (He.ga K "_law_sum") fd := d.def_ 49 rfl
  have O__law_sum : FnOk P w K mg base CX0 2 (He.ga K "_law_sum") fd__law_sum ["_law_one", "_law_other"] (spF K R_plus) := ok__law_sum T C__law_lowest F__law_sum
  have C__law_sum : Cal P w K mg base CX0 2 "_law_sum" ["_law_one", "_law_other"] [] (spF K R_plus) := ⟨_, fd__law_sum, [], He.glo_ok X G (d.fact 42 (f := .glo "_law_sum") rfl), F__law_sum.kp, FunD.bindsN (ps := ["_law_one", "_law_other"]) F__law_sum (fun _ _ _ _ _ _ us hl => match us, hl with | [_, _], _ => rfl), .nil, O__law_sum⟩
  obtain ⟨fd__law_product, F__law_product⟩ : ∃ fd, FunD K "_law_product" "_law_product" (defArgs (top 61)) (defBody (top 61)) (defScope (top 61)) [] [] (He.ga K "_law_product") fd := d.def_ 50 rfl
  have O__law_product : FnOk P w K mg base CX0 2 (He.ga K "_law_product") fd__law_product ["_law_one", "_law_other"] (spF K R_times) := ok__law_product T C__law_lowest F__law_product
  have C__law_product : Cal P w K mg base CX0 2 "_law_product" ["_law_one", "_law_other"] [] (spF K R_times) := ⟨_, fd__law_product, [], He.glo_ok X G (d.fact 43 (f := .glo "_law_product") rfl), F__law_product.kp, FunD.bindsN (ps := ["_law_one", "_law_other"]) F__law_product (fun _ _ _ _ _ _ us hl => match us, hl with | [_, _], _ => rfl), .nil, O__law_product⟩
  obtain ⟨fd__law_least, F__law_least⟩ : ∃ fd, FunD K "_law_least" "_law_least" (defArgs (top 72)) (defBody (top 72)) (defScope (top 72)) [] [] (He.ga K "_law_least") fd := d.def_ 61 rfl
  have O__law_least : FnOk P w K mg base CX0 2 (He.ga K "_law_least") fd__law_least ["_law_weights_here", "_law_parts_here"] (spF K R_least) := ok__law_least T C__law_common F__law_least
  have C__law_least : Cal P w K mg base CX0 2 "_law_least" ["_law_weights_here", "_law_parts_here"] [] (spF K R_least) := ⟨_, fd__law_least, [], He.glo_ok X G (d.fact 54 (f := .glo "_law_least") rfl), F__law_least.kp, FunD.bindsN (ps := ["_law_weights_here", "_law_parts_here"]) F__law_least (fun _ _ _ _ _ _ us hl => match us, hl with | [_, _], _ => rfl), .nil, O__law_least⟩
  obtain ⟨fd_plus, F_plus⟩ : ∃ fd, FunD K "plus" "plus" (defArgs (top 9)) (defBody (top 9)) (defScope (top 9)) [] [] (He.ga K "plus") fd := d.def_ 5 rfl
  have O_plus : FnOk P w K mg base CX0 3 (He.ga K "plus") fd_plus ["one", "other"] (spF K R_plus) := ok_plus T C_ratio F_plus
  have C_plus : Cal P w K mg base CX0 3 "plus" ["one", "other"] [] (spF K R_plus) := ⟨_, fd_plus, [], He.glo_ok X G (d.fact 3 (f := .glo "plus") rfl), F_plus.kp, FunD.bindsN (ps := ["one", "other"]) F_plus (fun _ _ _ _ _ _ us hl => match us, hl with | [_, _], _ => rfl), .nil, O_plus⟩
  obtain ⟨fd_minus, F_minus⟩ : ∃ fd, FunD K "minus" "minus" (defArgs (top 10)) (defBody (top 10)) (defScope (top 10)) [] [] (He.ga K "minus") fd := d.def_ 6 rfl
  have O_minus : FnOk P w K mg base CX0 3 (He.ga K "minus") fd_minus ["one", "other"] (spF K R_minus) := ok_minus T C_ratio F_minus
  have C_minus : Cal P w K mg base CX0 3 "minus" ["one", "other"] [] (spF K R_minus) := ⟨_, fd_minus, [], He.glo_ok X G (d.fact 4 (f := .glo "minus") rfl), F_minus.kp, FunD.bindsN (ps := ["one", "other"]) F_minus (fun _ _ _ _ _ _ us hl => match us, hl with | [_, _], _ => rfl), .nil, O_minus⟩
  obtain ⟨fd_times, F_times⟩ : ∃ fd, FunD K "times" "times" (defArgs (top 11)) (defBody (top 11)) (defScope (top 11)) [] [] (He.ga K "times") fd := d.def_ 7 rfl
  have O_times : FnOk P w K mg base CX0 3 (He.ga K "times") fd_times ["one", "other"] (spF K R_times) := ok_times T C_ratio F_times
  have C_times : Cal P w K mg base CX0 3 "times" ["one", "other"] [] (spF K R_times) := ⟨_, fd_times, [], He.glo_ok X G (d.fact 5 (f := .glo "times") rfl), F_times.kp, FunD.bindsN (ps := ["one", "other"]) F_times (fun _ _ _ _ _ _ us hl => match us, hl with | [_, _], _ => rfl), .nil, O_times⟩
  obtain ⟨fd_over, F_over⟩ : ∃ fd, FunD K "over" "over" (defArgs (top 12)) (defBody (top 12)) (defScope (top 12)) [] [] (He.ga K "over") fd := d.def_ 8 rfl
  have O_over : FnOk P w K mg base CX0 3 (He.ga K "over") fd_over ["one", "other"] (spF K R_over) := ok_over T C_ratio F_over
  have C_over : Cal P w K mg base CX0 3 "over" ["one", "other"] [] (spF K R_over) := ⟨_, fd_over, [], He.glo_ok X G (d.fact 6 (f := .glo "over") rfl), F_over.kp, FunD.bindsN (ps := ["one", "other"]) F_over (fun _ _ _ _ _ _ us hl => match us, hl with | [_, _], _ => rfl), .nil, O_over⟩
  obtain ⟨fd_groups_at, F_groups_at⟩ : ∃ fd, FunD K "groups_at" "groups_at" (defArgs (top 44)) (defBody (top 44)) (defScope (top 44)) [] [] (He.ga K "groups_at") fd := d.def_ 34 rfl
  have O_groups_at : FnOk P w K mg base CX0 3 (He.ga K "groups_at") fd_groups_at ["row", "walls"] (spF K R_groups_at) := ok_groups_at T C_wall_there C_comes_to F_groups_at
  have C_groups_at : Cal P w K mg base CX0 3 "groups_at" ["row", "walls"] [] (spF K R_groups_at) := ⟨_, fd_groups_at, [], He.glo_ok X G (d.fact 27 (f := .glo "groups_at") rfl), F_groups_at.kp, FunD.bindsN (ps := ["row", "walls"]) F_groups_at (fun _ _ _ _ _ _ us hl => match us, hl with | [_, _], _ => rfl), .nil, O_groups_at⟩
  obtain ⟨fd__law_ratio, F__law_ratio⟩ : ∃ fd, FunD K "_law_ratio" "_law_ratio" (defArgs (top 57)) (defBody (top 57)) (defScope (top 57)) [] [] (He.ga K "_law_ratio") fd := d.def_ 46 rfl
  have O__law_ratio : FnOk P w K mg base CX0 3 (He.ga K "_law_ratio") fd__law_ratio ["_law_pool"] (spP K P_ratio) := ok__law_ratio T C__law_next C__law_lowest C__law_far F__law_ratio
  have C__law_ratio : Cal P w K mg base CX0 3 "_law_ratio" ["_law_pool"] [] (spP K P_ratio) := ⟨_, fd__law_ratio, [], He.glo_ok X G (d.fact 39 (f := .glo "_law_ratio") rfl), F__law_ratio.kp, FunD.bindsN (ps := ["_law_pool"]) F__law_ratio (fun _ _ _ _ _ _ us hl => match us, hl with | [_], _ => rfl), .nil, O__law_ratio⟩
  obtain ⟨fd__law_minus, F__law_minus⟩ : ∃ fd, FunD K "_law_minus" "_law_minus" (defArgs (top 64)) (defBody (top 64)) (defScope (top 64)) [] [] (He.ga K "_law_minus") fd := d.def_ 53 rfl
  have O__law_minus : FnOk P w K mg base CX0 3 (He.ga K "_law_minus") fd__law_minus ["_law_one", "_law_other"] (spF K R_minus) := ok__law_minus T C__law_sum C__law_product F__law_minus
  have C__law_minus : Cal P w K mg base CX0 3 "_law_minus" ["_law_one", "_law_other"] [] (spF K R_minus) := ⟨_, fd__law_minus, [], He.glo_ok X G (d.fact 46 (f := .glo "_law_minus") rfl), F__law_minus.kp, FunD.bindsN (ps := ["_law_one", "_law_other"]) F__law_minus (fun _ _ _ _ _ _ us hl => match us, hl with | [_, _], _ => rfl), .nil, O__law_minus⟩
  obtain ⟨fd_changes, F_changes⟩ : ∃ fd, FunD K "changes" "changes" (defArgs (top 17)) (defBody (top 17)) (defScope (top 17)) [] [] (He.ga K "changes") fd := d.def_ 10 rfl
  have O_changes : FnOk P w K mg base CX0 4 (He.ga K "changes") fd_changes ["sighting"] (spF K R_changes) := ok_changes T C_minus F_changes
  have C_changes : Cal P w K mg base CX0 4 "changes" ["sighting"] [] (spF K R_changes) := ⟨_, fd_changes, [], He.glo_ok X G (d.fact 8 (f := .glo "changes") rfl), F_changes.kp, FunD.bindsN (ps := ["sighting"]) F_changes (fun _ _ _ _ _ _ us hl => match us, hl with | [_], _ => rfl), .nil, O_changes⟩
  obtain ⟨fd_is_rebound, F_is_rebound⟩ : ∃ fd, FunD K "is_rebound" "is_rebound" (defArgs (top 18)) (defBody (top 18)) (defScope (top 18)) [] [] (He.ga K "is_rebound") fd := d.def_ 11 rfl
  have O_is_rebound : FnOk P w K mg base CX0 4 (He.ga K "is_rebound") fd_is_rebound ["sighting"] (spF K R_is_rebound) := ok_is_rebound T C_minus F_is_rebound
  have C_is_rebound : Cal P w K mg base CX0 4 "is_rebound" ["sighting"] [] (spF K R_is_rebound) := ⟨_, fd_is_rebound, [], He.glo_ok X G (d.fact 9 (f := .glo "is_rebound") rfl), F_is_rebound.kp, FunD.bindsN (ps := ["sighting"]) F_is_rebound (fun _ _ _ _ _ _ us hl => match us, hl with | [_], _ => rfl), .nil, O_is_rebound⟩
  obtain ⟨fd_turned_over, F_turned_over⟩ : ∃ fd, FunD K "turned_over" "turned_over" (defArgs (top 22)) (defBody (top 22)) (defScope (top 22)) [] [] (He.ga K "turned_over") fd := d.def_ 15 rfl
  have O_turned_over : FnOk P w K mg base CX0 4 (He.ga K "turned_over") fd_turned_over ["share"] (spF K R_turned_over) := ok_turned_over T C_over F_turned_over
  have C_turned_over : Cal P w K mg base CX0 4 "turned_over" ["share"] [] (spF K R_turned_over) := ⟨_, fd_turned_over, [], He.glo_ok X G (d.fact 13 (f := .glo "turned_over") rfl), F_turned_over.kp, FunD.bindsN (ps := ["share"]) F_turned_over (fun _ _ _ _ _ _ us hl => match us, hl with | [_], _ => rfl), .nil, O_turned_over⟩
  obtain ⟨fd_place_at, F_place_at⟩ : ∃ fd, FunD K "place_at" "place_at" (defArgs (top 34)) (defBody (top 34)) (defScope (top 34)) [] [] (He.ga K "place_at") fd := d.def_ 25 rfl
  have O_place_at : FnOk P w K mg base CX0 4 (He.ga K "place_at") fd_place_at ["thing", "t"] (spF K R_place_at) := ok_place_at T C_plus C_times F_place_at
  have C_place_at : Cal P w K mg base CX0 4 "place_at" ["thing", "t"] [] (spF K R_place_at) := ⟨_, fd_place_at, [], He.glo_ok X G (d.fact 18 (f := .glo "place_at") rfl), F_place_at.kp, FunD.bindsN (ps := ["thing", "t"]) F_place_at (fun _ _ _ _ _ _ us hl => match us, hl with | [_, _], _ => rfl), .nil, O_place_at⟩
  obtain ⟨fd_meeting_moment, F_meeting_moment⟩ : ∃ fd, FunD K "meeting_moment" "meeting_moment" (defArgs (top 38)) (defBody (top 38)) (defScope (top 38)) [] [] (He.ga K "meeting_moment") fd := d.def_ 28 rfl
  have O_meeting_moment : FnOk P w K mg base CX0 4 (He.ga K "meeting_moment") fd_meeting_moment ["left", "right"] (spF K R_meeting_moment) := ok_meeting_moment T C_over C_less C_minus F_meeting_moment
  have C_meeting_moment : Cal P w K mg base CX0 4 "meeting_moment" ["left", "right"] [] (spF K R_meeting_moment) := ⟨_, fd_meeting_moment, [], He.glo_ok X G (d.fact 21 (f := .glo "meeting_moment") rfl), F_meeting_moment.kp, FunD.bindsN (ps := ["left", "right"]) F_meeting_moment (fun _ _ _ _ _ _ us hl => match us, hl with | [_, _], _ => rfl), .nil, O_meeting_moment⟩
  obtain ⟨fd_two_speeds, F_two_speeds⟩ : ∃ fd, FunD K "two_speeds" "two_speeds" (defArgs (top 46)) (defBody (top 46)) (defScope (top 46)) [] [] (He.ga K "two_speeds") fd := d.def_ 36 rfl
  have O_two_speeds : FnOk P w K mg base CX0 4 (He.ga K "two_speeds") fd_two_speeds ["left", "right"] (spF K R_two_speeds) := ok_two_speeds T C_ratio1 C_minus C_over C_times C_plus F_two_speeds
  have C_two_speeds : Cal P w K mg base CX0 4 "two_speeds" ["left", "right"] [] (spF K R_two_speeds) := ⟨_, fd_two_speeds, [], He.glo_ok X G (d.fact 29 (f := .glo "two_speeds") rfl), F_two_speeds.kp, FunD.bindsN (ps := ["left", "right"]) F_two_speeds (fun _ _ _ _ _ _ us hl => match us, hl with | [_, _], _ => rfl), .nil, O_two_speeds⟩
  obtain ⟨fd__law_row, F__law_row⟩ : ∃ fd, FunD K "_law_row" "_law_row" (defArgs (top 58)) (defBody (top 58)) (defScope (top 58)) [] [] (He.ga K "_law_row") fd := d.def_ 47 rfl
  have O__law_row : FnOk P w K mg base CX0 4 (He.ga K "_law_row") fd__law_row ["_law_pool", "_law_most"] (spP K P_row) := ok__law_row T C__law_ratio C__law_next C__law_lowest C__law_less C__law_sum F__law_row
  have C__law_row : Cal P w K mg base CX0 4 "_law_row" ["_law_pool", "_law_most"] [] (spP K P_row) := ⟨_, fd__law_row, [], He.glo_ok X G (d.fact 40 (f := .glo "_law_row") rfl), F__law_row.kp, FunD.bindsN (ps := ["_law_pool", "_law_most"]) F__law_row (fun _ _ _ _ _ _ us hl => match us, hl with | [_, _], _ => rfl), .nil, O__law_row⟩
  obtain ⟨fd__law_bound, F__law_bound⟩ : ∃ fd, FunD K "_law_bound" "_law_bound" (defArgs (top 62)) (defBody (top 62)) (defScope (top 62)) [] [] (He.ga K "_law_bound") fd := d.def_ 51 rfl
  have O__law_bound : FnOk P w K mg base CX0 4 (He.ga K "_law_bound") fd__law_bound ["_law_pool", "_law_ball", "_law_side"] (spP K P_bound) := ok__law_bound T C__law_next C__law_lowest C__law_sum C__law_ratio C__law_less C__law_product F__law_bound
  have C__law_bound : Cal P w K mg base CX0 4 "_law_bound" ["_law_pool", "_law_ball", "_law_side"] [] (spP K P_bound) := ⟨_, fd__law_bound, [], He.glo_ok X G (d.fact 44 (f := .glo "_law_bound") rfl), F__law_bound.kp, FunD.bindsN (ps := ["_law_pool", "_law_ball", "_law_side"]) F__law_bound (fun _ _ _ _ _ _ us hl => match us, hl with | [_, _, _], _ => rfl), .nil, O__law_bound⟩
  obtain ⟨fd__law_meeting, F__law_meeting⟩ : ∃ fd, FunD K "_law_meeting" "_law_meeting" (defArgs (top 65)) (defBody (top 65)) (defScope (top 65)) [] [] (He.ga K "_law_meeting") fd := d.def_ 54 rfl
  have O__law_meeting : FnOk P w K mg base CX0 4 (He.ga K "_law_meeting") fd__law_meeting ["_law_i", "_law_j", "_law_one", "_law_other", "_law_v", "_law_w"] (spF K R_meeting) := ok__law_meeting T C__law_minus C__law_sum C__law_product C__law_lowest F__law_meeting
  have C__law_meeting : Cal P w K mg base CX0 4 "_law_meeting" ["_law_i", "_law_j", "_law_one", "_law_other", "_law_v", "_law_w"] [] (spF K R_meeting) := ⟨_, fd__law_meeting, [], He.glo_ok X G (d.fact 47 (f := .glo "_law_meeting") rfl), F__law_meeting.kp, FunD.bindsN (ps := ["_law_i", "_law_j", "_law_one", "_law_other", "_law_v", "_law_w"]) F__law_meeting (fun _ _ _ _ _ _ us hl => match us, hl with | [_, _, _, _, _, _], _ => rfl), .nil, O__law_meeting⟩
  obtain ⟨fd_share_of, F_share_of⟩ : ∃ fd, FunD K "share_of" "share_of" (defArgs (top 19)) (defBody (top 19)) (defScope (top 19)) [] [] (He.ga K "share_of") fd := d.def_ 12 rfl
  have O_share_of : FnOk P w K mg base CX0 5 (He.ga K "share_of") fd_share_of ["sighting"] (spF K R_share_of) := ok_share_of T C_changes C_over C_less C_is_rebound F_share_of
  have C_share_of : Cal P w K mg base CX0 5 "share_of" ["sighting"] [] (spF K R_share_of) := ⟨_, fd_share_of, [], He.glo_ok X G (d.fact 10 (f := .glo "share_of") rfl), F_share_of.kp, FunD.bindsN (ps := ["sighting"]) F_share_of (fun _ _ _ _ _ _ us hl => match us, hl with | [_], _ => rfl), .nil, O_share_of⟩
  obtain ⟨fd_is_done, F_is_done⟩ : ∃ fd, FunD K "is_done" "is_done" (defArgs (top 20)) (defBody (top 20)) (defScope (top 20)) [] [] (He.ga K "is_done") fd := d.def_ 13 rfl
  have O_is_done : FnOk P w K mg base CX0 5 (He.ga K "is_done") fd_is_done ["weights", "sighting"] (spF K R_is_done) := ok_is_done T C_changes C_times C_ratio1 C_is_rebound F_is_done
  have C_is_done : Cal P w K mg base CX0 5 "is_done" ["weights", "sighting"] [] (spF K R_is_done) := ⟨_, fd_is_done, [], He.glo_ok X G (d.fact 11 (f := .glo "is_done") rfl), F_is_done.kp, FunD.bindsN (ps := ["weights", "sighting"]) F_is_done (fun _ _ _ _ _ _ us hl => match us, hl with | [_, _], _ => rfl), .nil, O_is_done⟩
  obtain ⟨fd_gone_on, F_gone_on⟩ : ∃ fd, FunD K "gone_on" "gone_on" (defArgs (top 35)) (defBody (top 35)) (defScope (top 35)) [] [] (He.ga K "gone_on") fd := d.def_ 26 rfl
  have O_gone_on : FnOk P w K mg base CX0 5 (He.ga K "gone_on") fd_gone_on ["thing", "t"] (spF K R_gone_on) := ok_gone_on T C_place_at F_gone_on
  have C_gone_on : Cal P w K mg base CX0 5 "gone_on" ["thing", "t"] [] (spF K R_gone_on) := ⟨_, fd_gone_on, [], He.glo_ok X G (d.fact 19 (f := .glo "gone_on") rfl), F_gone_on.kp, FunD.bindsN (ps := ["thing", "t"]) F_gone_on (fun _ _ _ _ _ _ us hl => match us, hl with | [_, _], _ => rfl), .nil, O_gone_on⟩
  obtain ⟨fd_least_moment, F_least_moment⟩ : ∃ fd, FunD K "least_moment" "least_moment" (defArgs (top 39)) (defBody (top 39)) (defScope (top 39)) [] [] (He.ga K "least_moment") fd := d.def_ 29 rfl
  have O_least_moment : FnOk P w K mg base CX0 5 (He.ga K "least_moment") fd_least_moment ["row", "walls"] (spF K R_least_moment) := ok_least_moment T C_meeting_moment C_less F_least_moment
  have C_least_moment : Cal P w K mg base CX0 5 "least_moment" ["row", "walls"] [] (spF K R_least_moment) := ⟨_, fd_least_moment, [], He.glo_ok X G (d.fact 22 (f := .glo "least_moment") rfl), F_least_moment.kp, FunD.bindsN (ps := ["row", "walls"]) F_least_moment (fun _ _ _ _ _ _ us hl => match us, hl with | [_, _], _ => rfl), .nil, O_least_moment⟩
  obtain ⟨fd_shut_moment, F_shut_moment⟩ : ∃ fd, FunD K "shut_moment" "shut_moment" (defArgs (top 40)) (defBody (top 40)) (defScope (top 40)) [] [] (He.ga K "shut_moment") fd := d.def_ 30 rfl
  have O_shut_moment : FnOk P w K mg base CX0 5 (He.ga K "shut_moment") fd_shut_moment ["walls"] (spF K R_shut_moment) := ok_shut_moment T C_meeting_moment F_shut_moment
  have C_shut_moment : Cal P w K mg base CX0 5 "shut_moment" ["walls"] [] (spF K R_shut_moment) := ⟨_, fd_shut_moment, [], He.glo_ok X G (d.fact 23 (f := .glo "shut_moment") rfl), F_shut_moment.kp, FunD.bindsN (ps := ["walls"]) F_shut_moment (fun _ _ _ _ _ _ us hl => match us, hl with | [_], _ => rfl), .nil, O_shut_moment⟩
  obtain ⟨fd_together_speeds, F_together_speeds⟩ : ∃ fd, FunD K "together_speeds" "together_speeds" (defArgs (top 47)) (defBody (top 47)) (defScope (top 47)) [] [] (He.ga K "together_speeds") fd := d.def_ 37 rfl
  have O_together_speeds : FnOk P w K mg base (L2.CX P w) 5 (He.ga K "together_speeds") fd_together_speeds ["balls", "wall", "moment"] (spF K (R_together_speeds (He.ga K "Together"))) := ok_together_speeds (cT := He.ga K "Together") (cS := He.ga K "Shut") T X_Together C_rising C_two_speeds C_minus C_times F_together_speeds
  have C_together_speeds : Cal P w K mg base (L2.CX P w) 5 "together_speeds" ["balls", "wall", "moment"] [] (spF K (R_together_speeds (He.ga K "Together"))) := ⟨_, fd_together_speeds, [], He.glo_ok X G (d.fact 30 (f := .glo "together_speeds") rfl), F_together_speeds.kp, FunD.bindsN (ps := ["balls", "wall", "moment"]) F_together_speeds (fun _ _ _ _ _ _ us hl => match us, hl with | [_, _, _], _ => rfl), .nil, O_together_speeds⟩
  obtain ⟨fd__law_bounds, F__law_bounds⟩ : ∃ fd, FunD K "_law_bounds" "_law_bounds" (defArgs (top 63)) (defBody (top 63)) (defScope (top 63)) [] [] (He.ga K "_law_bounds") fd := d.def_ 52 rfl
  have O__law_bounds : FnOk P w K mg base CX0 5 (He.ga K "_law_bounds") fd__law_bounds ["_law_pool", "_law_row_here"] (spP K P_bounds) := ok__law_bounds T C__law_bound C__law_less F__law_bounds
  have C__law_bounds : Cal P w K mg base CX0 5 "_law_bounds" ["_law_pool", "_law_row_here"] [] (spP K P_bounds) := ⟨_, fd__law_bounds, [], He.glo_ok X G (d.fact 45 (f := .glo "_law_bounds") rfl), F__law_bounds.kp, FunD.bindsN (ps := ["_law_pool", "_law_row_here"]) F__law_bounds (fun _ _ _ _ _ _ us hl => match us, hl with | [_, _], _ => rfl), .nil, O__law_bounds⟩
  obtain ⟨fd_does_all, F_does_all⟩ : ∃ fd, FunD K "does_all" "does_all" (defArgs (top 21)) (defBody (top 21)) (defScope (top 21)) [] [] (He.ga K "does_all") fd := d.def_ 14 rfl
  have O_does_all : FnOk P w K mg base CX0 6 (He.ga K "does_all") fd_does_all ["weights", "sightings"] (spF K R_does_all) := ok_does_all T C_is_done F_does_all
  have C_does_all : Cal P w K mg base CX0 6 "does_all" ["weights", "sightings"] [] (spF K R_does_all) := ⟨_, fd_does_all, [], He.glo_ok X G (d.fact 12 (f := .glo "does_all") rfl), F_does_all.kp, FunD.bindsN (ps := ["weights", "sightings"]) F_does_all (fun _ _ _ _ _ _ us hl => match us, hl with | [_, _], _ => rfl), .nil, O_does_all⟩
  obtain ⟨fd_steps_from, F_steps_from⟩ : ∃ fd, FunD K "steps_from" "steps_from" (defArgs (top 23)) (defBody (top 23)) (defScope (top 23)) [] [] (He.ga K "steps_from") fd := d.def_ 16 rfl
  have O_steps_from : FnOk P w K mg base CX0 6 (He.ga K "steps_from") fd_steps_from ["sightings", "ball"] (spF K R_steps_from) := ok_steps_from T C_share_of C_turned_over F_steps_from
  have C_steps_from : Cal P w K mg base CX0 6 "steps_from" ["sightings", "ball"] [] (spF K R_steps_from) := ⟨_, fd_steps_from, [], He.glo_ok X G (d.fact 14 (f := .glo "steps_from") rfl), F_steps_from.kp, FunD.bindsN (ps := ["sightings", "ball"]) F_steps_from (fun _ _ _ _ _ _ us hl => match us, hl with | [_, _], _ => rfl), .nil, O_steps_from⟩
  obtain ⟨fd_step_by, F_step_by⟩ : ∃ fd, FunD K "step_by" "step_by" (defArgs (top 26)) (defBody (top 26)) (defScope (top 26)) [] [] (He.ga K "step_by") fd := d.def_ 23 rfl
  have O_step_by : FnOk P w K mg base CX0 6 (He.ga K "step_by") fd_step_by ["n", "sightings", "pair"] (spF K R_step_by) := ok_step_by T C_share_of C_turned_over F_step_by
  have C_step_by : Cal P w K mg base CX0 6 "step_by" ["n", "sightings", "pair"] [] (spF K R_step_by) := ⟨_, fd_step_by, [], He.glo_ok X G (d.fact 16 (f := .glo "step_by") rfl), F_step_by.kp, FunD.bindsN (ps := ["n", "sightings", "pair"]) F_step_by (fun _ _ _ _ _ _ us hl => match us, hl with | [_, _, _], _ => rfl), .nil, O_step_by⟩
  obtain ⟨fd_walls_at, F_walls_at⟩ : ∃ fd, FunD K "walls_at" "walls_at" (defArgs (top 36)) (defBody (top 36)) (defScope (top 36)) [] [] (He.ga K "walls_at") fd := d.def_ 27 rfl
  have O_walls_at : FnOk P w K mg base CX0 6 (He.ga K "walls_at") fd_walls_at ["walls", "t"] (spF K R_walls_at) := ok_walls_at T C_gone_on F_walls_at
  have C_walls_at : Cal P w K mg base CX0 6 "walls_at" ["walls", "t"] [] (spF K R_walls_at) := ⟨_, fd_walls_at, [], He.glo_ok X G (d.fact 20 (f := .glo "walls_at") rfl), F_walls_at.kp, FunD.bindsN (ps := ["walls", "t"]) F_walls_at (fun _ _ _ _ _ _ us hl => match us, hl with | [_, _], _ => rfl), .nil, O_walls_at⟩
  obtain ⟨fd_rebounded, F_rebounded⟩ : ∃ fd, FunD K "rebounded" "rebounded" (defArgs (top 48)) (defBody (top 48)) (defScope (top 48)) [] [] (He.ga K "rebounded") fd := d.def_ 38 rfl
  have O_rebounded : FnOk P w K mg base (L2.CX P w) 6 (He.ga K "rebounded") fd_rebounded ["row", "walls", "groups", "moment"] (spF K (R_rebounded (He.ga K "Together"))) := ok_rebounded (cT := He.ga K "Together") (cS := He.ga K "Shut") T C_together_speeds C_wall_named F_rebounded
  have C_rebounded : Cal P w K mg base (L2.CX P w) 6 "rebounded" ["row", "walls", "groups", "moment"] [] (spF K (R_rebounded (He.ga K "Together"))) := ⟨_, fd_rebounded, [], He.glo_ok X G (d.fact 31 (f := .glo "rebounded") rfl), F_rebounded.kp, FunD.bindsN (ps := ["row", "walls", "groups", "moment"]) F_rebounded (fun _ _ _ _ _ _ us hl => match us, hl with | [_, _, _, _], _ => rfl), .nil, O_rebounded⟩
  obtain ⟨fd_Part_joined, F_Part_joined⟩ : ∃ fd, FunD K "joined" "Part.joined" (defArgs (inClass (top 24) 1)) (defBody (inClass (top 24) 1)) (defScope (inClass (top 24) 1)) [] [] (He.ma K (He.ga K "Part") "joined") fd := d.def_ 18 rfl
  have O_Part_joined : FnOk P w K mg base CX0 7 (He.ma K (He.ga K "Part") "joined") fd_Part_joined ["self", "ball"] (spJoin K (He.ga K "Part")) := ok_Part_joined T PC C_steps_from C_times MC_way_home MC_way_to F_Part_joined
  have MC_joined : MCal P w K mg base CX0 7 (He.ga K "Part") "joined" ["self", "ball"] (spJoin K (He.ga K "Part")) := ⟨_, fd_Part_joined, He.meth_ok (d.fact 87 (f := .meth "Part" "joined") rfl), FunD.bindsN (ps := ["self", "ball"]) F_Part_joined (fun _ _ _ _ _ _ us hl => match us, hl with | [_, _], _ => rfl), O_Part_joined⟩
  obtain ⟨fd_lets_ring, F_lets_ring⟩ : ∃ fd, FunD K "lets_ring" "lets_ring" (defArgs (top 27)) (defBody (top 27)) (defScope (top 27)) [] [] (He.ga K "lets_ring") fd := d.def_ 24 rfl
  have O_lets_ring : FnOk P w K mg base CX0 7 (He.ga K "lets_ring") fd_lets_ring ["n", "sightings", "ring"] (spF K R_lets_ring) := ok_lets_ring T C_step_by C_times F_lets_ring
  have C_lets_ring : Cal P w K mg base CX0 7 "lets_ring" ["n", "sightings", "ring"] [] (spF K R_lets_ring) := ⟨_, fd_lets_ring, [], He.glo_ok X G (d.fact 17 (f := .glo "lets_ring") rfl), F_lets_ring.kp, FunD.bindsN (ps := ["n", "sightings", "ring"]) F_lets_ring (fun _ _ _ _ _ _ us hl => match us, hl with | [_, _, _], _ => rfl), .nil, O_lets_ring⟩
  obtain ⟨fd_next_coming, F_next_coming⟩ : ∃ fd, FunD K "next_coming" "next_coming" (defArgs (top 49)) (defBody (top 49)) (defScope (top 49)) [] [] (He.ga K "next_coming") fd := d.def_ 39 rfl
  have O_next_coming : FnOk P w K mg base (L2.CX P w) 7 (He.ga K "next_coming") fd_next_coming ["row", "walls"] (spF K (R_next_coming (He.ga K "Shut"))) := ok_next_coming (cT := He.ga K "Together") (cS := He.ga K "Shut") T X_Shut C_least_moment C_shut_moment C_gone_on C_groups_at C_walls_at F_next_coming
  have C_next_coming : Cal P w K mg base (L2.CX P w) 7 "next_coming" ["row", "walls"] [] (spF K (R_next_coming (He.ga K "Shut"))) := ⟨_, fd_next_coming, [], He.glo_ok X G (d.fact 32 (f := .glo "next_coming") rfl), F_next_coming.kp, FunD.bindsN (ps := ["row", "walls"]) F_next_coming (fun _ _ _ _ _ _ us hl => match us, hl with | [_, _], _ => rfl), .nil, O_next_coming⟩
  obtain ⟨fd_Part_init, F_Part_init⟩ : ∃ fd, FunD K "__init__" "Part.__init__" (defArgs (inClass (top 24) 0)) (defBody (inClass (top 24) 0)) (defScope (inClass (top 24) 0)) [] [] (He.ma K (He.ga K "Part") "__init__") fd := d.def_ 17 rfl
  have O_Part_init : FnOk P w K mg base CX0 8 (He.ma K (He.ga K "Part") "__init__") fd_Part_init ["self", "sightings", "ball"] (spPart K (He.ga K "Part")) := ok_Part_init T PC MC_joined F_Part_init
  have MK_Part : MkC P w K mg base CX0 8 (He.ga K "Part") ["self", "sightings", "ball"] (spPart K (He.ga K "Part")) := ⟨_, fd_Part_init, He.mkr_ok (d.fact 91 (f := .mkr "Part") rfl), He.glo_ok X G (d.fact 58 (f := .glo "Part") rfl), FunD.bindsN (ps := ["self", "sightings", "ball"]) F_Part_init (fun _ _ _ _ _ _ us hl => match us, hl with | [_, _, _], _ => rfl), O_Part_init⟩
  obtain ⟨fd_behind, F_behind⟩ : ∃ fd, FunD K "behind" "behind" (defArgs (top 50)) (defBody (top 50)) (defScope (top 50)) [] [] (He.ga K "behind") fd := d.def_ 40 rfl
  have O_behind : FnOk P w K mg base (L2.CX P w) 8 (He.ga K "behind") fd_behind ["row", "walls"] (spF K (R_behind (He.ga K "Together") (He.ga K "Shut"))) := ok_behind (cT := He.ga K "Together") (cS := He.ga K "Shut") T C_next_coming C_walls_at C_gone_on C_rebounded F_behind
  have C_behind : Cal P w K mg base (L2.CX P w) 8 "behind" ["row", "walls"] [] (spF K (R_behind (He.ga K "Together") (He.ga K "Shut"))) := ⟨_, fd_behind, [], He.glo_ok X G (d.fact 33 (f := .glo "behind") rfl), F_behind.kp, FunD.bindsN (ps := ["row", "walls"]) F_behind (fun _ _ _ _ _ _ us hl => match us, hl with | [_, _], _ => rfl), .nil, O_behind⟩
  obtain ⟨fd__law_seen, F__law_seen⟩ : ∃ fd, FunD K "_law_seen" "_law_seen" (defArgs (top 73)) (defBody (top 73)) (defScope (top 73)) [] [] (He.ga K "_law_seen") fd := d.def_ 62 rfl
  have O__law_seen : FnOk P w K mg base CX0 9 (He.ga K "_law_seen") fd__law_seen ["_law_row_here", "_law_shuts"] (spF K R_seen) := ok__law_seen (cT := He.ga K "Together") (cS := He.ga K "Shut") T C_behind C_next_coming F__law_seen
  have C__law_seen : Cal P w K mg base CX0 9 "_law_seen" ["_law_row_here", "_law_shuts"] [] (spF K R_seen) := ⟨_, fd__law_seen, [], He.glo_ok X G (d.fact 55 (f := .glo "_law_seen") rfl), F__law_seen.kp, FunD.bindsN (ps := ["_law_row_here", "_law_shuts"]) F__law_seen (fun _ _ _ _ _ _ us hl => match us, hl with | [_, _], _ => rfl), .nil, O__law_seen⟩
  obtain ⟨fd_weights_of, F_weights_of⟩ : ∃ fd, FunD K "weights_of" "weights_of" (defArgs (top 25)) (defBody (top 25)) (defScope (top 25)) [] [] (He.ga K "weights_of") fd := d.def_ 22 rfl
  have O_weights_of : FnOk P w K mg base CX0 10 (He.ga K "weights_of") fd_weights_of ["n", "sightings"] (spN K R_weights_of) := ok_weights_of T PC C_share_of MK_Part MC_whole F_weights_of
  have C_weights_of : Cal P w K mg base CX0 10 "weights_of" ["n", "sightings"] [] (spN K R_weights_of) := ⟨_, fd_weights_of, [], He.glo_ok X G (d.fact 15 (f := .glo "weights_of") rfl), F_weights_of.kp, FunD.bindsN (ps := ["n", "sightings"]) F_weights_of (fun _ _ _ _ _ _ us hl => match us, hl with | [_, _], _ => rfl), .nil, O_weights_of⟩
  obtain ⟨fd__law_watched, F__law_watched⟩ : ∃ fd, FunD K "_law_watched" "_law_watched" (defArgs (top 74)) (defBody (top 74)) (defScope (top 74)) [] [] (He.ga K "_law_watched") fd := d.def_ 63 rfl
  have O__law_watched : FnOk P w K mg base CX0 10 (He.ga K "_law_watched") fd__law_watched ["_law_row_here", "_law_shuts", "_law_most"] (spF K R_watched) := ok__law_watched (cT := He.ga K "Together") (cS := He.ga K "Shut") T He_gT He_gS hT hS C__law_seen C_behind F__law_watched
  have C__law_watched : Cal P w K mg base CX0 10 "_law_watched" ["_law_row_here", "_law_shuts", "_law_most"] [] (spF K R_watched) := ⟨_, fd__law_watched, [], He.glo_ok X G (d.fact 56 (f := .glo "_law_watched") rfl), F__law_watched.kp, FunD.bindsN (ps := ["_law_row_here", "_law_shuts", "_law_most"]) F__law_watched (fun _ _ _ _ _ _ us hl => match us, hl with | [_, _, _], _ => rfl), .nil, O__law_watched⟩
  have O_law : FnOk P w K mg base CX0 11 (He.ga K "law") fd_law ["_law_script"] (spLaw K) := ok_law T C__law_dig C__law_row C__law_bounds C__law_watched C__law_least C__law_cell C__law_parts C__law_meeting C_weights_of C_does_all C__law_next C_lets_ring F_law
  exact O_law
end K57
set_option maxHeartbeats 0
/-! H3: the law -/
open PySem PySem.W PySem.Calls PyProof.Rows
theorem PySem.Challenge.cw_clackrow_k57_whole_weights_seen_in_runs_holds : PySem.Challenge.rw_clackrow_k57_whole_weights_seen_in_runs.Holds := by
  w_on; o_law
  refine HandSHeadRun.head_any (r := OpenLaw.row PySem.Challenge.rw_clackrow_k57_whole_weights_seen_in_runs) (q := view (OpenLaw.row PySem.Challenge.rw_clackrow_k57_whole_weights_seen_in_runs).prog [75]) (H := K57.hk) (ob := K57.ob) (M := 6000) (loose := K57.loose) (d := HandSHeadRun.topDef (OpenLaw.row PySem.Challenge.rw_clackrow_k57_whole_weights_seen_in_runs).prog 75) (kwd := []) K57.ob_eq
    (by kernel_rfl) (fun s => by kernel_rfl) K57.run (by kernel_rfl) (by kernel_rfl) (by kernel_rfl) (by rfl) (by first | assumption | decide +kernel) (by decide +kernel) ⟨rfl, rfl, rfl, rfl, rfl, by decide +kernel⟩ ?hw ?hc
  case hw => w_witness2
  case hc =>
    refine L2.walk_ofE (l := PySem.Challenge.rw_clackrow_k57_whole_weights_seen_in_runs) (n := 63) (k := 11) (x := "_law_script") (CX := L2.CX0) rfl (by decide) (by kernel_rfl) ⟨rfl, by decide, by decide⟩ ?F (fun _ _ _ _ z => z)
    intro w mg fa h Y G hmg0
    obtain ⟨K, KX, c⟩ := Y
    have hmg : mg ("law" : PySem.Str) = some (.ref fa) := by
      have e : (HandSHeadRun.topDef (OpenLaw.row PySem.Challenge.rw_clackrow_k57_whole_weights_seen_in_runs).prog 75).name = ("law" : PySem.Str) := by kernel_rfl
      rw [← e]
      exact hmg0
    have hga : fa = He.ga K "law" := by
      have e := hmg.symm.trans (He.glo_ok KX G (c.t.d.fact 57 (f := .glo "law") rfl))
      cases e
      rfl
    subst hga
    obtain ⟨fd, hb, hF⟩ := K57.law_facts (P := (PySem.Challenge.rw_clackrow_k57_whole_weights_seen_in_runs).prog) (w := w) KX G c.t.d c.more
    exact ⟨K, fd, K57.spLaw K, KX, hb, fun H a ns hl _ hS => ⟨a, ns, rfl, hl, hS, fun _ => rfl⟩, fun base _ _ => hF base⟩
