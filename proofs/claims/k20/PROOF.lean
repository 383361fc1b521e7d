import PyProof.Rows.All
import Wide.All
import OpenK.AllK
import Wide.FinOn
import HandS.ForMost
import HandS.ForExc
import HandS.ExcCtx
import HandS.IsInst
import HandS.Wide
import HandS.TupAny
import HandS.TupMul
import HandS.Lambda
import HandS.HotCalls
import HandS.EndTab
import KE.DataEq
import HandS.ExcIs
import KE.KDictDisplayH
import KE.KDictCopyH
import HandS.More
import PySem.Challenge.RW_lookhouse_k20_terms_refused
import HandS.Nested
set_option Elab.async false
set_option linter.all false
set_option maxRecDepth 100000
set_option maxHeartbeats 4000000
/-! # A layer over deep data: what a def computes as a plain function of PyData -/
namespace IL
open PySem PySem.Spec PyProof.Rows L2

abbrev D := PyData
/-- the refusals -/
inductive XC where
  | path | state | deed | look | number | storm | text
  deriving DecidableEq
/-- how a piece of code ends -/
inductive Res (α : Type) where
  | ok (a : α) | exc (c : XC) | stuck
def Res.bind {α β : Type} : Res α → (α → Res β) → Res β
  | .ok a, k => k a
  | .exc c, _ => .exc c
  | .stuck, _ => .stuck
def ofO {α : Type} : Option α → Res α
  | some a => .ok a
  | none => .stuck
@[simp] theorem bind_ok {α β : Type} (a : α) (k : α → Res β) : (Res.ok a).bind k = k a := rfl
@[simp] theorem bind_exc {α β : Type} (c : XC) (k : α → Res β) : (Res.exc c).bind k = .exc c := rfl
@[simp] theorem bind_stuck {α β : Type} (k : α → Res β) : (Res.stuck).bind k = .stuck := rfl
@[simp] theorem ofO_some {α : Type} (a : α) : ofO (some a) = .ok a := rfl
@[simp] theorem ofO_none {α : Type} : ofO (none : Option α) = .stuck := rfl

/-! ### values and data -/
def kD : Key → D
  | .inl i => .int i
  | .inr x => .str x
/-- the datum of an object of the class Looks: its terms; is nothing worked out yet? -/
def obD (es : List (D × D)) (fresh : Bool) : D := .dict [(.none, .tuple [.dict es, .bool fresh])]
def isOb : D → Bool
  | .dict [(.none, _)] => true
  | _ => false
/-- where its parts lie -/
structure ObAt (K : PySem.W.Frag) (G : Hp) (a t kn dn : Addr) : Prop where
  ex : ∃ C dx n, PySem.W.nsIn K mainGlobals "Looks" = some (some (.ref C)) ∧ G a = some (.ins C dx [("now", .ref n), ("terms", .ref t), ("known", .ref kn), ("done", .ref dn)])
mutual
/-- the value v holds the data d in H -/
inductive Rp (K : PySem.W.Frag) (H : Hp) : V → D → Prop where
  | non : Rp K H .non .none
  | bl (b : Bool) : Rp K H (.bl b) (.bool b)
  | int (i : Int) : Rp K H (.int i) (.int i)
  | str (x : Str) : Rp K H (.str x) (.str x)
  | lst {a : Addr} {xs : List V} {ds : List D} (h : SqL K H a xs) (r : RpAll K H xs ds) : Rp K H (.ref a) (.list ds)
  | tup {a : Addr} {xs : List V} {ds : List D} (h : H a = some (.tup xs)) (r : RpAll K H xs ds) : Rp K H (.ref a) (.tuple ds)
  | dT {a : Addr} {kvs : List (List Key × V)} {es : List (D × D)} (h : Rd H a (.dT kvs)) (r : RpT K H kvs es) : Rp K H (.ref a) (.dict es)
  | dK {a : Addr} {kvs : List (Key × V)} {es : List (D × D)} (h : Rd H a (.dK kvs)) (r : RpK K H kvs es) : Rp K H (.ref a) (.dict es)
  | ob {a t kn dn : Addr} {kvs : List (Key × V)} {es : List (D × D)} {fresh : Bool} (h : ObAt K H a t kn dn) (ht : Rd H t (.dK kvs)) (r : RpK K H kvs es) (hf : fresh = true → Rd H kn (.dK []) ∧ Rd H dn (.lst [])) : Rp K H (.ref a) (obD es fresh)
inductive RpAll (K : PySem.W.Frag) (H : Hp) : List V → List D → Prop where
  | nil : RpAll K H [] []
  | cons {v : V} {vs : List V} {d : D} {ds : List D} (h : Rp K H v d) (r : RpAll K H vs ds) : RpAll K H (v :: vs) (d :: ds)
inductive RpT (K : PySem.W.Frag) (H : Hp) : List (List Key × V) → List (D × D) → Prop where
  | nil : RpT K H [] []
  | cons {k : List Key} {v : V} {kvs : List (List Key × V)} {d : D} {es : List (D × D)} (h : Rp K H v d) (r : RpT K H kvs es) : RpT K H ((k, v) :: kvs) ((.tuple (k.map kD), d) :: es)
inductive RpK (K : PySem.W.Frag) (H : Hp) : List (Key × V) → List (D × D) → Prop where
  | nil : RpK K H [] []
  | cons {k : Key} {v : V} {kvs : List (Key × V)} {d : D} {es : List (D × D)} (h : Rp K H v d) (r : RpK K H kvs es) : RpK K H ((k, v) :: kvs) ((kD k, d) :: es)
end
def isDat : HO → Bool
  | .lst _ => true
  | .tup _ => true
  | .dT _ => true
  | .dK _ => true
  | _ => false
def isTbl : HO → Bool
  | .tbl _ => true
  | _ => false
/-- tuples, instances: read as they stand -/
def rigid : HO → Bool
  | .tup _ => true
  | .ins _ _ _ => true
  | _ => false
theorem isTbl_of_rigid {u : HO} (h : rigid u = true) : isTbl u = false := by cases u <;> first | rfl | cases h
/-- what is read in H is read in H' -/
structure RdLe (H H' : Hp) : Prop where
  rd : ∀ a u, isDat u = true → Rd H a u → Rd H' a u
  tp : ∀ a o, rigid o = true → H a = some o → H' a = some o
section
variable {K : PySem.W.Frag} {H H' : Hp}
theorem sqL_le (l : RdLe H H') {a : Addr} {xs : List V} (h : SqL K H a xs) : SqL K H' a xs := h.imp (fun h => l.rd a _ rfl h) id
mutual
theorem Rp.le (l : RdLe H H') : ∀ {v : V} {d : D}, Rp K H v d → Rp K H' v d
  | _, _, .non => .non
  | _, _, .bl b => .bl b
  | _, _, .int i => .int i
  | _, _, .str x => .str x
  | _, _, .lst h r => .lst (sqL_le l h) (RpAll.le l r)
  | _, _, .tup h r => .tup (l.tp _ _ rfl h) (RpAll.le l r)
  | _, _, .dT h r => .dT (l.rd _ _ rfl h) (RpT.le l r)
  | _, _, .dK h r => .dK (l.rd _ _ rfl h) (RpK.le l r)
  | _, _, .ob h ht r hf => .ob ⟨let ⟨C, dx, n, e1, e2⟩ := h.ex; ⟨C, dx, n, e1, l.tp _ _ rfl e2⟩⟩ (l.rd _ _ rfl ht) (RpK.le l r) fun z => ⟨l.rd _ _ rfl (hf z).1, l.rd _ _ rfl (hf z).2⟩
theorem RpAll.le (l : RdLe H H') : ∀ {vs : List V} {ds : List D}, RpAll K H vs ds → RpAll K H' vs ds
  | _, _, .nil => .nil
  | _, _, .cons h r => .cons (Rp.le l h) (RpAll.le l r)
theorem RpT.le (l : RdLe H H') : ∀ {vs : List (List Key × V)} {ds : List (D × D)}, RpT K H vs ds → RpT K H' vs ds
  | _, _, .nil => .nil
  | _, _, .cons h r => .cons (Rp.le l h) (RpT.le l r)
theorem RpK.le (l : RdLe H H') : ∀ {vs : List (Key × V)} {ds : List (D × D)}, RpK K H vs ds → RpK K H' vs ds
  | _, _, .nil => .nil
  | _, _, .cons h r => .cons (Rp.le l h) (RpK.le l r)
end
theorem RpAll.length : ∀ {vs : List V} {ds : List D}, RpAll K H vs ds → vs.length = ds.length
  | _, _, .nil => rfl
  | _, _, .cons _ r => congrArg (· + 1) (RpAll.length r)
theorem RpAll.get : ∀ {vs : List V} {ds : List D} {i : Nat} {d : D}, RpAll K H vs ds → ds[i]? = some d → ∃ v, vs[i]? = some v ∧ Rp K H v d
  | _, _, _, _, .nil, e => by simp at e
  | _, _, 0, _, .cons h _, e => by simp at e; subst e; exact ⟨_, rfl, h⟩
  | _, _, i + 1, _, .cons _ r, e => by
    obtain ⟨v, h1, h2⟩ := RpAll.get (i := i) r (by simpa using e)
    exact ⟨v, by simpa using h1, h2⟩
theorem RpAll.app : ∀ {vs ws : List V} {ds es : List D}, RpAll K H vs ds → RpAll K H ws es → RpAll K H (vs ++ ws) (ds ++ es)
  | _, _, _, _, .nil, s => s
  | _, _, _, _, .cons h r, s => .cons h (RpAll.app r s)
theorem RpAll.take : ∀ {vs : List V} {ds : List D} (n : Nat), RpAll K H vs ds → RpAll K H (vs.take n) (ds.take n)
  | _, _, 0, _ => by simp only [List.take_zero]; exact .nil
  | _, _, _ + 1, .nil => .nil
  | _, _, n + 1, .cons h r => .cons h (RpAll.take n r)
theorem RpAll.drop : ∀ {vs : List V} {ds : List D} (n : Nat), RpAll K H vs ds → RpAll K H (vs.drop n) (ds.drop n)
  | _, _, 0, r => r
  | _, _, _ + 1, .nil => .nil
  | _, _, n + 1, .cons _ r => RpAll.drop n r
end

/-- what a name may own -/
def isOwn : HO → Bool
  | .lst _ => true
  | .dT _ => true
  | .dK _ => true
  | .frz _ _ => true
  | .ins _ _ _ => true
  | _ => false
theorem isTbl_of_own {u : HO} (h : isOwn u = true) : isTbl u = false := by cases u <;> first | rfl | cases h
/-! ### how the heap goes on -/
/-- what nothing here changes: no list, dict, set, table -/
def fixO : HO → Bool
  | .lst _ => false
  | .dT _ => false
  | .dK _ => false
  | .set _ _ => false
  | .frz _ _ => false
  | .tbl _ => false
  | .ins _ _ _ => false
  | _ => true
/-- the tables of code objects; what else is known of the heap, of objects that nothing here changes -/
structure Gam where
  tabs : List (Addr × Str)
  inv : Hp → Prop
  mono : ∀ H H' : Hp, (∀ b o, H b = some o → fixO o = true → H' b = some o) → inv H → inv H'
/-- the tables and the rest -/
structure TabC (T : Gam) (H : Hp) : Prop where
  at_ : LamX.Tabs T.tabs H
  inv : T.inv H
/-- all but tables stays; what is free was free; the tables told in T stay told -/
structure Pe (T : Gam) (H H' : Hp) : Prop where
  st : ∀ b o, H b = some o → isTbl o = false → H' b = some o
  fr : ∀ b, H' b = none → H b = none
  tb : TabC T H → TabC T H'
def hide (S : List Addr) (H : Hp) : Hp := fun a => if a ∈ S then none else H a
def LiveO (S : List Addr) (H : Hp) : Prop := ∀ a ∈ S, ∃ o, H a = some o ∧ isOwn o = true
/-- what S names is owned; the tables are those of T -/
structure Live (T : Gam) (S : List Addr) (H : Hp) : Prop where
  own : LiveO S H
  tb : TabC T H
section
variable {T : Gam} {K : PySem.W.Frag} {S : List Addr} {H H1 H2 : Hp} {p : Addr} {o : HO}
theorem Pe.refl : Pe T H H := ⟨fun _ _ h _ => h, fun _ h => h, id⟩
theorem Pe.trans (a : Pe T H H1) (b : Pe T H1 H2) : Pe T H H2 := ⟨fun c o h n => b.st c o (a.st c o h n) n, fun c h => a.fr c (b.fr c h), fun t => b.tb (a.tb t)⟩
theorem Pe.ex (h : ∀ b o, H b = some o → H1 b = some o) : Pe T H H1 := by
  refine ⟨fun b o e _ => h b o e, fun b e => ?_, fun t => ⟨LamX.Tabs.ext t.at_ h, T.mono H H1 (fun b o e _ => h b o e) t.inv⟩⟩
  cases q : H b with
  | none => rfl
  | some o => rw [h b o q] at e; cases e
theorem Pe.new (h : H p = none) (_ho : isTbl o = false := by rfl) : Pe T H (upd H p o) := .ex fun b u e => by rw [upd_ne (ne_of_none e h)]; exact e
/-- an object that may change, no table and no code object, becomes another -/
theorem TabC.upd {w v : HO} (t : TabC T H) (h : H p = some w) (h1 : isTbl w = false) (h2 : fixO w = false) : TabC T (upd H p v) := by
  refine ⟨fun z hz => ?_, T.mono H _ (fun b o e f => ?_) t.inv⟩
  · obtain ⟨ps, e1, e2, e3⟩ := t.at_ z hz
    have n1 : z.1 ≠ p := fun e => by
      rw [e, h] at e1
      cases e1
      cases h1
    refine ⟨ps, (upd_ne n1).trans e1, e2, fun pos cv hc => ?_⟩
    obtain ⟨c, q1, q2⟩ := e3 pos cv hc
    have n2 : c ≠ p := fun e => by
      rw [e, h] at q2
      rw [Option.some.inj q2] at h2
      cases h2
    exact ⟨c, q1, (upd_ne n2).trans q2⟩
  · have n : b ≠ p := fun z => by
      rw [z, h] at e
      rw [Option.some.inj e, f] at h2
      cases h2
    exact (upd_ne n).trans e
theorem fix_of_own {u : HO} (h : isOwn u = true) : fixO u = false := by cases u <;> first | rfl | cases h
theorem TabC.hide (t : TabC T H) (h : LiveO S H) : TabC T (hide S H) := by
  have nn : ∀ {a : Addr} {o : HO}, H a = some o → isOwn o = false → a ∉ S := fun {a o} e n z => by
    obtain ⟨u, h1, h2⟩ := h a z
    rw [e] at h1
    cases h1
    rw [n] at h2
    cases h2
  have hin : ∀ {a : Addr} {o : HO}, H a = some o → isOwn o = false → IL.hide S H a = some o := fun {a o} e n => (if_neg (nn e n)).trans e
  refine ⟨fun z hz => ?_, T.mono H _ (fun b o e f => ?_) t.inv⟩
  · obtain ⟨ps, e1, e2, e3⟩ := t.at_ z hz
    refine ⟨ps, hin e1 rfl, e2, fun pos cv hc => ?_⟩
    obtain ⟨c, q1, q2⟩ := e3 pos cv hc
    exact ⟨c, q1, hin q2 rfl⟩
  · refine hin e ?_
    cases o <;> first | rfl | cases f
theorem TabC.unhide (t : TabC T (IL.hide S H)) (h : LiveO S H) : TabC T H := by
  have out : ∀ {a : Addr} {o : HO}, IL.hide S H a = some o → H a = some o := fun {a o} e => by
    unfold IL.hide at e
    split at e
    · cases e
    · exact e
  refine ⟨fun z hz => ?_, T.mono _ H (fun b o e _ => out e) t.inv⟩
  obtain ⟨ps, e1, e2, e3⟩ := t.at_ z hz
  refine ⟨ps, out e1, e2, fun pos cv hc => ?_⟩
  obtain ⟨c, q1, q2⟩ := e3 pos cv hc
  exact ⟨c, q1, out q2⟩
theorem hide_in (h : p ∉ S) : hide S H p = H p := if_neg h
theorem hide_some (h : hide S H p = some o) : p ∉ S ∧ H p = some o := by
  unfold hide at h
  split at h
  · cases h
  · exact ⟨by assumption, h⟩
theorem hide_nil : hide [] H = H := by funext a; exact if_neg (by simp)
theorem LiveO.le (l : LiveO S H) (p : Pe T H H1) : LiveO S H1 := fun a ha => let ⟨o, h1, h2⟩ := l a ha; ⟨o, p.st a o h1 (isTbl_of_own h2), h2⟩
theorem Live.le (l : Live T S H) (p : Pe T H H1) : Live T S H1 := ⟨l.own.le p, p.tb l.tb⟩
theorem LiveO.no (l : LiveO S H) (h : H p = none) : p ∉ S := fun hp => by
  obtain ⟨o, e, _⟩ := l p hp
  rw [h] at e; cases e
theorem LiveO.tup (l : LiveO S H) {xs : List V} (h : H p = some (.tup xs)) : p ∉ S := fun hp => by
  obtain ⟨o, e, q⟩ := l p hp
  rw [h] at e; cases e; cases q
theorem Live.no (l : Live T S H) (h : H p = none) : p ∉ S := l.own.no h
theorem Live.tup (l : Live T S H) {xs : List V} (h : H p = some (.tup xs)) : p ∉ S := l.own.tup h
theorem isTbl_of_rd {u : HO} (h : isDat u = true) : isTbl u = false := by cases u <;> first | rfl | cases h
theorem Pe.rd (x : Pe T H H1) : RdLe (hide S H) (hide S H1) := by
  refine ⟨fun a u hu h => ?_, fun a xs hx h => let ⟨h1, h2⟩ := hide_some h; (hide_in h1).trans (x.st a _ h2 (isTbl_of_rigid hx))⟩
  rcases h with h | ⟨ob, h⟩
  · obtain ⟨h1, h2⟩ := hide_some h
    exact .inl ((hide_in h1).trans (x.st a u h2 (isTbl_of_rd hu)))
  · obtain ⟨h1, h2⟩ := hide_some h
    exact .inr ⟨ob, (hide_in h1).trans (x.st a _ h2 rfl)⟩
theorem Live.new (l : Live T S H) (h : H p = none) : hide S (upd H p o) p = some o := (hide_in (l.no h)).trans upd_same
/-- less is hidden -/
theorem hide_le {S' : List Addr} (h : ∀ a ∈ S', a ∈ S) : RdLe (hide S H) (hide S' H) := by
  refine ⟨fun a u _ r => ?_, fun a xs _ r => let ⟨h1, h2⟩ := hide_some r; (hide_in fun z => h1 (h a z)).trans h2⟩
  rcases r with r | ⟨ob, r⟩
  · obtain ⟨h1, h2⟩ := hide_some r
    exact .inl ((hide_in fun z => h1 (h a z)).trans h2)
  · obtain ⟨h1, h2⟩ := hide_some r
    exact .inr ⟨ob, (hide_in fun z => h1 (h a z)).trans h2⟩
theorem rd_hide {a : Addr} {u : HO} (r : Rd (hide S H) a u) : Rd H a u := r.imp (fun h => (hide_some h).2) fun ⟨o, h⟩ => ⟨o, (hide_some h).2⟩
theorem sqL_hide {a : Addr} {xs : List V} (h : SqL K (hide S H) a xs) : SqL K H a xs := h.imp rd_hide id
theorem tup_hide {a : Addr} {xs : List V} (h : hide S H a = some (.tup xs)) : SqT K H a xs := .inl (.inl (hide_some h).2)
end

/-! ### ends, expressions -/
abbrev Env := List (Option D)
abbrev Ev := Env → Res D
structure RelE (K : PySem.W.Frag) (G : Hp) (env : Env) (σ : L2.St) : Prop where
  len : env.length = σ.length
  at_ : ∀ (i : Nat) (d : D), env[i]? = some (some d) → ∃ v : V, σ[i]? = some (some v) ∧ Rp K G v d
def Fin {α β : Type} (T : Gam) (ca : XC → Addr) (R : Hp → β → α → Prop) (W : WX) (σ : L2.St) (H : Hp) (r : Res α) (Q : β → Hp → Prop) : Prop :=
  match r with
  | .ok a => ∀ b H', Pe T H H' → R H' b a → Q b H'
  | .exc c => ∀ H', Pe T H H' → W (.ref (ca c)) none σ H'
  | .stuck => False
def Rv (K : PySem.W.Frag) (S : List Addr) : Hp → V → D → Prop := fun H v d => Rp K (hide S H) v d
def Ra (K : PySem.W.Frag) (S : List Addr) : Hp → List V → List D → Prop := fun H v d => RpAll K (hide S H) v d
def Rb : Hp → Bool → Bool → Prop := fun _ b c => b = c
section
variable {T : Gam} {ca : XC → Addr} {K : PySem.W.Frag} {S : List Addr} {H H1 H2 : Hp} {W : WX} {σ : L2.St} {α β γ δ : Type} {R : Hp → β → α → Prop} {R' : Hp → δ → γ → Prop} {Q : β → Hp → Prop} {Q' : δ → Hp → Prop}
theorem RelE.le {env : Env} (r : RelE K (hide S H) env σ) (p : Pe T H H1) : RelE K (hide S H1) env σ := ⟨r.len, fun i d e => let ⟨v, h1, h2⟩ := r.at_ i d e; ⟨v, h1, h2.le p.rd⟩⟩
theorem Fin.le {r : Res α} (f : Fin T ca R W σ H r Q) (p : Pe T H H1) : Fin T ca R W σ H1 r Q := by
  cases r with
  | ok a => exact fun b H' q rr => f b H' (p.trans q) rr
  | exc c => exact fun H' q => f H' (p.trans q)
  | stuck => exact f
theorem Fin.bind {r : Res γ} {k : γ → Res α} (f : Fin T ca R W σ H (r.bind k) Q) (h : ∀ d v H1, r = .ok d → Pe T H H1 → R' H1 v d → Fin T ca R W σ H1 (k d) Q → Q' v H1) : Fin T ca R' W σ H r Q' := by
  cases r with
  | ok d => exact fun v H1 p rr => h d v H1 rfl p rr (Fin.le (r := k d) f p)
  | exc c => exact f
  | stuck => exact f
theorem Fin.some {a : Option α} (f : Fin T ca R W σ H (ofO a) Q) : ∃ z, a = some z ∧ ∀ b H', Pe T H H' → R H' b z → Q b H' := by
  cases a with
  | none => exact False.elim f
  | some z => exact ⟨z, rfl, f⟩
theorem Fin.imp {r : Res α} {Q2 : β → Hp → Prop} (f : Fin T ca R W σ H r Q) (h : ∀ b H', Pe T H H' → Q b H' → Q2 b H') : Fin T ca R W σ H r Q2 := by
  cases r with
  | ok a => exact fun b H' p rr => h b H' p (f b H' p rr)
  | exc c => exact f
  | stuck => exact f
end
def tI (T : Gam) (ca : XC → Addr) (K : PySem.W.Frag) (W : WX) (m : Ev) : TE := fun σ H Q => ∃ S env, Live T S H ∧ RelE K (hide S H) env σ ∧ Fin T ca (Rv K S) W σ H (m env) Q
def tIT (T : Gam) (ca : XC → Addr) (K : PySem.W.Frag) (W : WX) (m : Env → Res Bool) : TT := fun σ H Q => ∃ S env, Live T S H ∧ RelE K (hide S H) env σ ∧ Fin T ca Rb W σ H (m env) Q
def tIA (T : Gam) (ca : XC → Addr) (K : PySem.W.Frag) (W : WX) (m : Env → Res (List D)) : TA := fun σ H Q => ∃ S env, Live T S H ∧ RelE K (hide S H) env σ ∧ Fin T ca (Ra K S) W σ H (m env) Q
structure IE (T : Gam) (ca : XC → Addr) (X : Cx) (W : WX) (e : Expr) (m : Ev) : Prop where
  pe : PE X e (tI T ca X.K W m)
structure IT (T : Gam) (ca : XC → Addr) (X : Cx) (W : WX) (e : Expr) (m : Env → Res Bool) : Prop where
  pt : PT X e (tIT T ca X.K W m)
structure IW (T : Gam) (ca : XC → Addr) (X : Cx) (W : WX) (e : Expr) (m : Env → Res Bool) : Prop where
  pw : PW X e (tIT T ca X.K W m)
structure IA (T : Gam) (ca : XC → Addr) (X : Cx) (W : WX) (es : List Expr) (m : Env → Res (List D)) : Prop where
  pa : PA X es (tIA T ca X.K W m)
section
variable {X : Cx} {e : Expr} {es : List Expr}
theorem pe_imp {t t' : TE} (h : PE X e t) (i : ∀ σ H Q, t' σ H Q → t σ H Q) : PE X e t' := ⟨fun pins s σ H Q I q => h.run pins s σ H Q I (i σ H Q q)⟩
theorem pt_imp {t t' : TT} (h : PT X e t) (i : ∀ σ H Q, t' σ H Q → t σ H Q) : PT X e t' := ⟨fun pins s σ H Q I q => h.run pins s σ H Q I (i σ H Q q)⟩
theorem pw_imp {t t' : TT} (h : PW X e t) (i : ∀ σ H Q, t' σ H Q → t σ H Q) : PW X e t' := ⟨fun w pins s σ H Q I q => h.run w pins s σ H Q I (i σ H Q q)⟩
theorem pa_imp {t t' : TA} (h : PA X es t) (i : ∀ σ H Q, t' σ H Q → t σ H Q) : PA X es t' := ⟨fun pos pins s σ H Q I q => h.run pos pins s σ H Q I (i σ H Q q)⟩
end
end IL
/-! ### rules for expressions -/
namespace IL
open PySem PySem.Spec PyProof.Rows L2
/-- from the end wanted of the pure answer z to what a rule wants -/
abbrev Wants (T : Gam) (K : PySem.W.Frag) (S : List Addr) (H : Hp) (z : D) (Q : VK) : Prop := ∀ v H', Pe T H H' → Rp K (hide S H') v z → Q v H'
def Imp1 (T : Gam) (K : PySem.W.Frag) (r : V → Hp → VK → Prop) (g : D → Option D) : Prop :=
  ∀ (S : List Addr) (x : V) (d z : D) (H : Hp) (Q : VK), Live T S H → Rp K (hide S H) x d → g d = some z → Wants T K S H z Q → r x H Q
def Imp2 (T : Gam) (K : PySem.W.Frag) (r : R2) (g : D → D → Option D) : Prop :=
  ∀ (S : List Addr) (x y : V) (d e z : D) (H : Hp) (Q : VK), Live T S H → Rp K (hide S H) x d → Rp K (hide S H) y e → g d e = some z → Wants T K S H z Q → r x y H Q
def ImpN (T : Gam) (K : PySem.W.Frag) (r : List V → Hp → VK → Prop) (g : List D → Option D) : Prop :=
  ∀ (S : List Addr) (xs : List V) (ds : List D) (z : D) (H : Hp) (Q : VK), Live T S H → RpAll K (hide S H) xs ds → g ds = some z → Wants T K S H z Q → r xs H Q
/-! ### what a value that holds a datum is -/
section
variable {T : Gam} {K : PySem.W.Frag} {G : Hp} {v : V} {S : List Addr} {H : Hp}
theorem rp_int {i : Int} (h : Rp K G v (.int i)) : v = .int i := by cases h; rfl
theorem rp_str {x : Str} (h : Rp K G v (.str x)) : v = .str x := by cases h; rfl
theorem rp_bl {b : Bool} (h : Rp K G v (.bool b)) : v = .bl b := by cases h; rfl
theorem rp_non (h : Rp K G v .none) : v = .non := by cases h; rfl
theorem rp_lst {ds : List D} (h : Rp K G v (.list ds)) : ∃ a xs, v = .ref a ∧ SqL K G a xs ∧ RpAll K G xs ds := by
  cases h with
  | lst h r => exact ⟨_, _, rfl, h, r⟩
theorem rp_tup {ds : List D} (h : Rp K G v (.tuple ds)) : ∃ a xs, v = .ref a ∧ G a = some (.tup xs) ∧ RpAll K G xs ds := by
  cases h with
  | tup h r => exact ⟨_, _, rfl, h, r⟩
theorem Wants.int {i : Int} {Q : VK} (w : Wants T K S H (.int i) Q) : Q (.int i) H := w _ _ .refl (.int i)
theorem Wants.bl {i : Bool} {Q : VK} (w : Wants T K S H (.bool i) Q) : Q (.bl i) H := w _ _ .refl (.bl i)
theorem Wants.str {i : Str} {Q : VK} (w : Wants T K S H (.str i) Q) : Q (.str i) H := w _ _ .refl (.str i)
theorem Wants.non {Q : VK} (w : Wants T K S H .none Q) : Q .non H := w _ _ .refl .non
theorem Wants.same {d : D} {Q : VK} (w : Wants T K S H d Q) (h : Rp K (hide S H) v d) : Q v H := w _ _ .refl h
theorem Wants.nlst {xs : List V} {ds : List D} {Q : VK} (w : Wants T K S H (.list ds) Q) (lv : Live T S H) (r : RpAll K (hide S H) xs ds) : ∀ p, H p = none → Q (.ref p) (upd H p (.lst xs)) := fun p hp =>
  w _ _ (.new hp) (.lst (.inl (.inl (lv.new hp))) (RpAll.le (Pe.rd (T := T) (.new hp)) r))
theorem Wants.ntup {xs : List V} {ds : List D} {Q : VK} (w : Wants T K S H (.tuple ds) Q) (lv : Live T S H) (r : RpAll K (hide S H) xs ds) : ∀ p, H p = none → Q (.ref p) (upd H p (.tup xs)) := fun p hp =>
  w _ _ (.new hp) (.tup (lv.new hp) (RpAll.le (Pe.rd (T := T) (.new hp)) r))
end

/-! ### the data's operations -/
def big (n : Nat) : Bool := decide (n ≤ 1000000)
theorem big_ok {n : Nat} (h : big n = true) : n ≤ sizeLine := Nat.le_trans (of_decide_eq_true h) (by decide)
def gAdd : D → D → Option D
  | .int i, .int j => some (.int (i + j))
  | .str x, .str y => if big (x.length + y.length) = true then some (.str (x ++ y)) else none
  | .list xs, .list ys => if big (xs.length + ys.length) = true then some (.list (xs ++ ys)) else none
  | .tuple xs, .tuple ys => if big (xs.length + ys.length) = true then some (.tuple (xs ++ ys)) else none
  | _, _ => none
def gSub : D → D → Option D
  | .int i, .int j => some (.int (i - j))
  | _, _ => none
def mulOk (i j : Int) : Bool := (decide (-(2 ^ 64) < i) && decide (i < 2 ^ 64)) || (decide (-(2 ^ 64) < j) && decide (j < 2 ^ 64)) || (decide (i.natAbs < 2 ^ 400) && decide (j.natAbs < 2 ^ 400))
def gMul : D → D → Option D
  | .int i, .int j => if mulOk i j = true then some (.int (i * j)) else none
  | .tuple xs, .int k => if decide (xs ≠ []) && decide (2 ≤ k) && decide (k ≤ 1000) && decide (xs.length ≤ 1000) = true then some (.tuple (List.replicate k.toNat xs).flatten) else none
  | _, _ => none
def gMod : D → D → Option D
  | .int i, .int j => if decide (0 < j) = true then some (.int (i % j)) else none
  | _, _ => none
def gDiv : D → D → Option D
  | .int i, .int j => if decide (0 < j) && decide (j.natAbs < 2 ^ 400) = true then some (.int (i / j)) else none
  | _, _ => none
def gPow : D → D → Option D
  | .int i, .int j => if decide (0 ≤ j) && decide (j ≤ 1000000) && decide (i.natAbs < 2 ^ 64) = true then some (.int (i ^ j.toNat)) else none
  | _, _ => none
def gNeg : D → Option D
  | .int i => some (.int (-i))
  | _ => none
def gEqB (d e : D) : Option Bool := if d.plain && e.plain && (decide (d.depth ≤ 60) || decide (e.depth ≤ 60)) = true then some (d.eqv e) else none
def gEq (d e : D) : Option D := (gEqB d e).map .bool
def gNe (d e : D) : Option D := (gEqB d e).map fun b => .bool (!b)
def gLt : D → D → Option D
  | .int i, .int j => some (.bool (decide (i < j)))
  | _, _ => none
def gLe : D → D → Option D
  | .int i, .int j => some (.bool (decide (i ≤ j)))
  | _, _ => none
def gGt : D → D → Option D
  | .int i, .int j => some (.bool (decide (j < i)))
  | _, _ => none
/-- one sign in a text -/
def gInS : D → D → Option D
  | .str x, .str z => if decide (x.cps.size = 1) = true then some (.bool (decide (x.cps.toList.headD 0 ∈ z.cps.toList))) else none
  | _, _ => none
def gIsN (d _ : D) : Option D := some (.bool (match d with | .none => true | _ => false))
def gNotN (d _ : D) : Option D := some (.bool (match d with | .none => false | _ => true))
/-- an item of a list, a tuple, a text -/
def gIx : D → D → Option D
  | .list xs, .int i => atI xs i
  | .tuple xs, .int i => atI xs i
  | .str z, .int i => if big z.length = true then (atI z.cps.toList i).map fun c => .str ⟨#[c]⟩ else none
  | _, _ => none
def cutL (xs : List D) (lo hi : Option Int) : List D := (xs.drop (HT.sIx xs.length 0 lo)).take (HT.sIx xs.length xs.length hi - HT.sIx xs.length 0 lo)
def gSl : D → Option Int → Option Int → Option D
  | .list xs, lo, hi => some (.list (cutL xs lo hi))
  | .tuple xs, lo, hi => some (.tuple (cutL xs lo hi))
  | .str z, lo, hi => if big z.length = true then some (.str (cutS z lo hi)) else none
  | _, _, _ => none
def gAbs : List D → Option D
  | [.int i] => some (.int (if i < 0 then -i else i))
  | _ => none
def gLen : List D → Option D
  | [.list xs] => some (.int xs.length)
  | [.tuple xs] => some (.int xs.length)
  | [.str z] => if big z.length = true then some (.int z.length) else none
  | _ => none
def boolsOf : List D → Option (List Bool)
  | [] => some []
  | .bool b :: r => (boolsOf r).map (b :: ·)
  | _ => none
def intsOf : List D → Option (List Int)
  | [] => some []
  | .int b :: r => (intsOf r).map (b :: ·)
  | _ => none
def gAll : List D → Option D
  | [.list xs] => (boolsOf xs).map fun bs => .bool (bs.all id)
  | _ => none
def gAny : List D → Option D
  | [.list xs] => (boolsOf xs).map fun bs => .bool (bs.any id)
  | _ => none
def gSum : List D → Option D
  | [.list xs] => (intsOf xs).map fun bs => .int bs.sum
  | _ => none
def gInt : List D → Option D
  | [.int i] => some (.int i)
  | [.bool b] => some (.int (if b then 1 else 0))
  | _ => none
def gMax2 : List D → Option D
  | [.int i, .int j] => some (.int (if j > i then j else i))
  | _ => none
def gMin2 : List D → Option D
  | [.int i, .int j] => some (.int (if j < i then j else i))
  | _ => none
def gTupOf : List D → Option D
  | [.list xs] => some (.tuple xs)
  | [.tuple xs] => some (.tuple xs)
  | _ => none
def gListOf : List D → Option D
  | [.list xs] => some (.list xs)
  | [.tuple xs] => some (.list xs)
  | _ => none
/-! ### .. are what the rules ask -/
section
variable {T : Gam} {X : Cx}
theorem mem_hd {x : Str} (h : x.cps.size = 1) : x = ⟨#[x.cps.toList.headD 0]⟩ := by
  obtain ⟨⟨l⟩⟩ := x
  match l, h with
  | [c], _ => rfl
/-- a list + a list, wherever they stand -/
def rCatL (K : PySem.W.Frag) : R2 := fun x y H Q => ∃ a b xs ys, x = .ref a ∧ y = .ref b ∧ SqL K H a xs ∧ SqL K H b ys ∧ xs.length + ys.length ≤ sizeLine ∧ ∀ p, H p = none → Q (.ref p) (upd H p (.lst (xs ++ ys)))
theorem op_catL : OpR X (binaryOp .Add) (rCatL X.K) := by
  intro pins s σ H x y v u Q I rx ry h
  obtain ⟨a, b, xs, ys, rfl, rfl, ha, hb, hz, q⟩ := h
  cases rx
  cases ry
  obtain ⟨i1, r1, ⟨⟨c1, d1, t1, l1⟩, n1, e1, k1, k2, k3⟩, _⟩ := I.list ha
  obtain ⟨i2, r2, ⟨⟨c2, d2, t2, l2⟩, n2, e2, m1, m2, m3⟩, _⟩ := I.list hb
  simp only at k1 k2 k3 m1 m2 m3
  subst k1 k2 k3 m1 m2 m3
  have q1 := r1.length
  have q2 := r2.length
  have ea : i1.toArray ++ i2.toArray = (i1 ++ i2).toArray := by simp
  refine concat_meets (S := _) ⟨_, e1, rfl⟩ ⟨_, e2, rfl⟩ noFill_list_add seq_list_add PySem.F.slot_list_add PySem.F.entry_list_add (PySem.F.args_list_add_2 _ _) (list_addW a b i1.toArray i2.toArray n1 n2 none none l1 l2 (by rw [List.size_toArray, List.size_toArray]; omega)) ⟨e1, e2, ?_⟩
  rw [ea]
  exact ⟨.ref _, _, I.lnew (t' := s.toks) (r1.append r2) (by rw [List.length_append]; omega), rfl, q _ I.fresh⟩
theorem imp_add : Imp2 T X.K (fun x y H Q => (rI0 (fun i j => .int (i + j)) x y H Q ∨ (∃ i j, x = .str i ∧ y = .str j ∧ i.length + j.length ≤ sizeLine ∧ Q (.str (i ++ j)) H)) ∨ (rCatL X.K x y H Q ∨ rCatA X.K x y H Q)) gAdd := by
  intro S x y d e z H Q lv rx ry g w
  unfold gAdd at g
  split at g
  · cases rp_int rx; cases rp_int ry; cases g
    exact .inl (.inl ⟨_, _, rfl, rfl, w.int⟩)
  · cases rp_str rx; cases rp_str ry
    split at g
    · cases g
      exact .inl (.inr ⟨_, _, rfl, rfl, big_ok (by assumption), w.str⟩)
    · cases g
  · split at g
    · cases g
      obtain ⟨a, xs, rfl, h1, r1⟩ := rp_lst rx
      obtain ⟨b, ys, rfl, h2, r2⟩ := rp_lst ry
      refine .inr (.inl ⟨a, b, xs, ys, rfl, rfl, sqL_hide h1, sqL_hide h2, ?_, w.nlst lv (r1.app r2)⟩)
      rw [r1.length, r2.length]
      exact big_ok (by assumption)
    · cases g
  · split at g
    · cases g
      obtain ⟨a, xs, rfl, h1, r1⟩ := rp_tup rx
      obtain ⟨b, ys, rfl, h2, r2⟩ := rp_tup ry
      refine .inr (.inr ⟨a, b, xs, ys, rfl, rfl, tup_hide h1, tup_hide h2, ?_, fun e => ?_, fun _ e => ?_, fun _ _ => w.ntup lv (r1.app r2)⟩)
      · rw [r1.length, r2.length]
        exact big_ok (by assumption)
      · subst e
        cases r1
        exact w.same (.tup h2 r2)
      · subst e
        cases r2
        rw [List.append_nil] at w
        exact w.same (.tup h1 r1)
    · cases g
  · cases g
theorem op_addI : OpR X (binaryOp .Add) (fun x y H Q => (rI0 (fun i j => .int (i + j)) x y H Q ∨ (∃ i j, x = .str i ∧ y = .str j ∧ i.length + j.length ≤ sizeLine ∧ Q (.str (i ++ j)) H)) ∨ (rCatL X.K x y H Q ∨ rCatA X.K x y H Q)) :=
  OpR.or (OpR.or op_add op_add_str) (OpR.or op_catL op_catA)
theorem imp_sub : Imp2 T X.K (rI0 fun i j => .int (i - j)) gSub := by
  intro S x y d e z H Q lv rx ry g w
  unfold gSub at g
  split at g
  · cases rp_int rx; cases rp_int ry; cases g
    exact ⟨_, _, rfl, rfl, w.int⟩
  · cases g
theorem imp_mul : Imp2 T X.K (fun x y H Q => (rI CMul (fun i j => .int (i * j)) x y H Q ∨ rI CMulW (fun i j => .int (i * j)) x y H Q) ∨ rRepT X.K x y H Q) gMul := by
  intro S x y d e z H Q lv rx ry g w
  unfold gMul at g
  split at g
  · split at g
    · rename_i h
      cases rp_int rx; cases rp_int ry; cases g
      unfold mulOk at h
      simp only [Bool.or_eq_true, Bool.and_eq_true, decide_eq_true_eq] at h
      rcases h with (h | h) | h
      · exact .inl (.inl ⟨_, _, rfl, rfl, .inl h, w.int⟩)
      · exact .inl (.inl ⟨_, _, rfl, rfl, .inr h, w.int⟩)
      · exact .inl (.inr ⟨_, _, rfl, rfl, wide_mul h.1 h.2 (by decide) (by decide) (by decide), w.int⟩)
    · cases g
  · split at g
    · rename_i h
      simp only [Bool.and_eq_true, decide_eq_true_eq] at h
      obtain ⟨⟨⟨h1, h2⟩, h3⟩, h4⟩ := h
      cases rp_int ry; cases g
      obtain ⟨a, xs, rfl, hs, r⟩ := rp_tup rx
      have el := r.length
      refine .inr ⟨a, _, xs, rfl, rfl, tup_hide hs, fun e => h1 ?_, h2, h3, by omega, w.ntup lv ?_⟩
      · subst e
        cases r
        rfl
      · clear h2 h3 w
        rename_i k
        induction k.toNat with
        | zero => exact .nil
        | succ n ih => rw [List.replicate_succ, List.replicate_succ, List.flatten_cons, List.flatten_cons]; exact r.app ih
    · cases g
  · cases g
theorem op_mulI : OpR X (binaryOp .Mult) (fun x y H Q => (rI CMul (fun i j => .int (i * j)) x y H Q ∨ rI CMulW (fun i j => .int (i * j)) x y H Q) ∨ rRepT X.K x y H Q) := OpR.or (OpR.or op_mul op_mulW) op_repT
theorem imp_mod : Imp2 T X.K (rI (fun _ j => 0 < j) fun i j => .int (i % j)) gMod := by
  intro S x y d e z H Q lv rx ry g w
  unfold gMod at g
  split at g
  · split at g
    · rename_i h
      cases rp_int rx; cases rp_int ry; cases g
      exact ⟨_, _, rfl, rfl, of_decide_eq_true h, w.int⟩
    · cases g
  · cases g
theorem imp_div : Imp2 T X.K (rI CDivW fun i j => .int (i / j)) gDiv := by
  intro S x y d e z H Q lv rx ry g w
  unfold gDiv at g
  split at g
  · split at g
    · rename_i h
      simp only [Bool.and_eq_true, decide_eq_true_eq] at h
      cases rp_int rx; cases rp_int ry; cases g
      exact ⟨_, _, rfl, rfl, wide_div h.1 h.2 (by decide) (by decide), w.int⟩
    · cases g
  · cases g
theorem imp_pow : Imp2 T X.K (rI CPow fun i j => .int (i ^ j.toNat)) gPow := by
  intro S x y d e z H Q lv rx ry g w
  unfold gPow at g
  split at g
  · split at g
    · rename_i h
      simp only [Bool.and_eq_true, decide_eq_true_eq] at h
      cases rp_int rx; cases rp_int ry; cases g
      exact ⟨_, _, rfl, rfl, ⟨h.1.1, h.1.2, h.2⟩, w.int⟩
    · cases g
  · cases g
theorem imp_neg : Imp1 T X.K (rU fun i => .int (-i)) gNeg := by
  intro S x d z H Q lv rx g w
  unfold gNeg at g
  split at g
  · cases rp_int rx; cases g
    exact ⟨_, rfl, w.int⟩
  · cases g
theorem imp_lt : Imp2 T X.K (rI0 fun i j => .bl (decide (i < j))) gLt := by
  intro S x y d e z H Q lv rx ry g w
  unfold gLt at g
  split at g
  · cases rp_int rx; cases rp_int ry; cases g
    exact ⟨_, _, rfl, rfl, w.bl⟩
  · cases g
theorem imp_le : Imp2 T X.K (rI0 fun i j => .bl (decide (i ≤ j))) gLe := by
  intro S x y d e z H Q lv rx ry g w
  unfold gLe at g
  split at g
  · cases rp_int rx; cases rp_int ry; cases g
    exact ⟨_, _, rfl, rfl, w.bl⟩
  · cases g
theorem imp_gt : Imp2 T X.K (rI0 fun i j => .bl (decide (j < i))) gGt := by
  intro S x y d e z H Q lv rx ry g w
  unfold gGt at g
  split at g
  · cases rp_int rx; cases rp_int ry; cases g
    exact ⟨_, _, rfl, rfl, w.bl⟩
  · cases g
theorem imp_inS : Imp2 T X.K (fun x y H Q => ∃ (c : Nat) (z : Str), x = .str ⟨#[c]⟩ ∧ y = .str z ∧ Q (.bl (decide (c ∈ z.cps.toList))) H) gInS := by
  intro S x y d e z H Q lv rx ry g w
  unfold gInS at g
  split at g
  · split at g
    · rename_i h
      cases rp_str rx; cases rp_str ry; cases g
      exact ⟨_, _, congrArg V.str (mem_hd (of_decide_eq_true h)), rfl, w.bl⟩
    · cases g
  · cases g
theorem imp_isN : Imp2 T X.K (fun x y H Q => y = .non ∧ Q (.bl (decide (x = .non))) H) (fun d e => if e matches .none then gIsN d e else none) := by
  intro S x y d e z H Q lv rx ry g w
  cases ry <;> first | (cases g; done) | skip
  refine ⟨rfl, ?_⟩
  cases rx <;> cases g <;> exact w.bl
theorem imp_notN : Imp2 T X.K (fun x y H Q => y = .non ∧ Q (.bl (!decide (x = .non))) H) (fun d e => if e matches .none then gNotN d e else none) := by
  intro S x y d e z H Q lv rx ry g w
  cases ry <;> first | (cases g; done) | skip
  refine ⟨rfl, ?_⟩
  cases rx <;> cases g <;> exact w.bl
/-! equality of data without dicts -/
mutual
theorem Rp.dp {K : PySem.W.Frag} {G : Hp} : ∀ {v : V} {d : D}, Rp K G v d → d.plain = true → Dp K G v d
  | _, _, .non, _ => .non
  | _, _, .bl b, _ => .bl b
  | _, _, .int i, _ => .int i
  | _, _, .str x, _ => .str x
  | _, _, .lst h r, p => .lst h (RpAll.dp r p)
  | _, _, .tup h r, p => .tup (.inl (.inl h)) (RpAll.dp r p)
  | _, _, .dT _ _, p => nomatch (show false = true from p)
  | _, _, .dK _ _, p => nomatch (show false = true from p)
  | _, _, .ob _ _ _ _, p => nomatch (show false = true from p)
theorem RpAll.dp {K : PySem.W.Frag} {G : Hp} : ∀ {vs : List V} {ds : List D}, RpAll K G vs ds → PyData.plainAll ds = true → DpAll K G vs ds
  | _, _, .nil, _ => .nil
  | _, _, .cons h r, p => .cons (Rp.dp h (Bool.and_eq_true_iff.mp p).1) (RpAll.dp r (Bool.and_eq_true_iff.mp p).2)
end
def rEqP (K : PySem.W.Frag) (neg : Bool) : R2 := fun x y H Q => ∃ d e b, Rp K H x d ∧ Rp K H y e ∧ gEqB d e = some b ∧ Q (.bl (if neg then !b else b)) H
theorem gEqB_is {d e : D} {b : Bool} (h : gEqB d e = some b) : d.plain = true ∧ e.plain = true ∧ min d.depth e.depth ≤ 60 ∧ b = d.eqv e := by
  unfold gEqB at h
  split at h
  · rename_i k
    simp only [Bool.and_eq_true, Bool.or_eq_true, decide_eq_true_eq] at k
    cases h
    exact ⟨k.1.1, k.1.2, by omega, rfl⟩
  · cases h
theorem op_eqP (hu : X.A.units + 64 < cLine) : OpR X (compareOp .Eq) (rEqP X.K false) := by
  intro pins s σ H x y v u Q I rx ry h
  obtain ⟨d, e, b, hx, hy, hb, q⟩ := h
  obtain ⟨p1, p2, p3, rfl⟩ := gEqB_is hb
  obtain ⟨as, r1⟩ := Dp.reads I d x v (hx.dp p1) rx
  obtain ⟨bs, r2⟩ := Dp.reads I e y u (hy.dp p2) ry
  exact PySem.SeqAt.eq_plain r1 r2 p1 p2 (by omega) ⟨.bl _, H, I, rfl, q⟩
theorem op_neP (hu : X.A.units + 64 < cLine) : OpR X (compareOp .NotEq) (rEqP X.K true) := by
  intro pins s σ H x y v u Q I rx ry h
  obtain ⟨d, e, b, hx, hy, hb, q⟩ := h
  obtain ⟨p1, p2, p3, rfl⟩ := gEqB_is hb
  obtain ⟨as, r1⟩ := Dp.reads I d x v (hx.dp p1) rx
  obtain ⟨bs, r2⟩ := Dp.reads I e y u (hy.dp p2) ry
  exact PySem.SeqAt.ne_plain r1 r2 p1 p2 (by omega) ⟨.bl _, H, I, rfl, q⟩
theorem unhide {K : PySem.W.Frag} {S : List Addr} {H : Hp} {v : V} {d : D} (h : Rp K (hide S H) v d) : Rp K H v d := by
  have l : RdLe (hide S H) H := by
    have z := hide_le (S := S) (H := H) (S' := []) (fun _ h => nomatch h)
    rw [hide_nil] at z
    exact z
  exact h.le l
theorem imp_eq : Imp2 T X.K (rEqP X.K false) gEq := by
  intro S x y d e z H Q lv rx ry g w
  unfold gEq at g
  cases hb : gEqB d e with
  | none => rw [hb] at g; cases g
  | some b =>
    rw [hb] at g
    cases g
    exact ⟨d, e, b, unhide rx, unhide ry, hb, w.bl⟩
theorem imp_ne : Imp2 T X.K (rEqP X.K true) gNe := by
  intro S x y d e z H Q lv rx ry g w
  unfold gNe at g
  cases hb : gEqB d e with
  | none => rw [hb] at g; cases g
  | some b =>
    rw [hb] at g
    cases g
    exact ⟨d, e, b, unhide rx, unhide ry, hb, w.bl⟩
end
end IL
namespace IL
open PySem PySem.Spec PyProof.Rows L2
/-! ### what a code computes, over the names' data -/
def mVar (i : Nat) : Ev := fun env => match env[i]? with
  | some (some d) => .ok d
  | _ => .stuck
def mC (d : D) : Ev := fun _ => .ok d
def m1 (g : D → Option D) (a : Ev) : Ev := fun env => (a env).bind fun d => ofO (g d)
def m2 (g : D → D → Option D) (a b : Ev) : Ev := fun env => (a env).bind fun d => (b env).bind fun e => ofO (g d e)
def mNil : Env → Res (List D) := fun _ => .ok []
def mCons (a : Ev) (r : Env → Res (List D)) : Env → Res (List D) := fun env => (a env).bind fun d => (r env).bind fun ds => .ok (d :: ds)
def mB (g : List D → Option D) (a : Env → Res (List D)) : Ev := fun env => (a env).bind fun ds => ofO (g ds)
def mCall (f : List D → Res D) (a : Env → Res (List D)) : Ev := fun env => (a env).bind f
def gTup (ds : List D) : Option D := if big ds.length = true then some (.tuple ds) else none
def gLst (ds : List D) : Option D := if big ds.length = true then some (.list ds) else none
def isB : D → Option Bool
  | .bool b => some b
  | _ => none
def mT (a : Ev) : Env → Res Bool := fun env => (a env).bind fun d => ofO (isB d)
def mAnd (a b : Env → Res Bool) : Env → Res Bool := fun env => (a env).bind fun x => if x = true then b env else .ok false
def mOr (a b : Env → Res Bool) : Env → Res Bool := fun env => (a env).bind fun x => if x = true then .ok true else b env
def mNot (a : Env → Res Bool) : Env → Res Bool := fun env => (a env).bind fun x => .ok (!x)
def mAndV (a b : Ev) : Ev := fun env => (a env).bind fun d => (ofO (isB d)).bind fun x => if x = true then b env else .ok (.bool false)
def mOrV (a b : Ev) : Ev := fun env => (a env).bind fun d => (ofO (isB d)).bind fun x => if x = true then .ok (.bool true) else b env
def mNotV (a : Ev) : Ev := fun env => (a env).bind fun d => (ofO (isB d)).bind fun x => .ok (.bool (!x))
def mIf (t : Env → Res Bool) (a b : Ev) : Ev := fun env => (t env).bind fun x => if x = true then a env else b env
def mChain (g g' : D → D → Option D) (a b c : Ev) : Ev := fun env => (a env).bind fun d => (b env).bind fun e => (ofO (g d e)).bind fun z => (ofO (isB z)).bind fun x => if x = true then (c env).bind fun f => ofO (g' e f) else .ok (.bool false)
/-- the parts of a slice -/
def mPart (o : Option Ev) : Env → Res (Option Int) := fun env => match o with
  | none => .ok none
  | some a => (a env).bind fun d => match d with | .int i => .ok (some i) | _ => .stuck
def mSl (a : Ev) (lo hi : Option Ev) : Ev := fun env => (a env).bind fun d => (mPart lo env).bind fun l => (mPart hi env).bind fun h => ofO (gSl d l h)
/-! dicts whose keys are tuples -/
def toKeys : List D → Option (List Key)
  | [] => some []
  | .int i :: r => (toKeys r).map (Sum.inl i :: ·)
  | .str x :: r => (toKeys r).map (Sum.inr x :: ·)
  | _ => none
def keyT : D → Option (List Key)
  | .tuple ks => toKeys ks
  | _ => none
def valT (es : List (D × D)) (k : List Key) : Option D := (es.find? fun e => decide (keyT e.1 = some k)).map (·.2)
def gDIn (k : D) : D → Option D
  | .dict (e :: es) => if (keyT e.1).isSome = true then (keyT k).map fun kk => .bool (valT (e :: es) kk).isSome else none
  | _ => none
def gDGet : D → D → Option D
  | .dict (e :: es), k => if (keyT e.1).isSome = true then (keyT k).bind fun kk => valT (e :: es) kk else none
  | _, _ => none
section
variable {T : Gam} {ca : XC → Addr} {X : Cx} {W : WX} {e a b c o i : Expr} {es : List Expr} {pos : Pos} {ma mb mc : Ev} {ms : Env → Res (List D)} {ta tb : Env → Res Bool}
theorem ie_var {i : Nat} {x : Str} (hN : X.N[i]? = some x := by rfl) (hv : Vis X.env.scope x := by first | exact Or.inl rfl | exact Or.inr (Or.inl rfl) | exact Or.inr (Or.inr rfl)) (hd : (x == ("__debug__" : Str)) = false := by decide) (hcd : (x == ("__classdict__" : Str)) = false := by decide) :
    IE T ca X W (.Name x pos) (mVar i) := ⟨pe_imp (pe_var hN hv hd hcd) fun σ H Q ⟨S, env, lv, rel, fin⟩ => by
  unfold mVar at fin
  split at fin
  · rename_i d e
    obtain ⟨v, h1, h2⟩ := rel.at_ i d e
    exact ⟨v, h1, fin v H .refl h2⟩
  · exact fin.elim⟩
theorem ie_int {i j} : IE T ca X W (.Constant (.int i) j pos) (mC (.int i)) := ⟨pe_imp pe_int fun σ H Q ⟨S, env, lv, rel, fin⟩ => fin _ H .refl (.int i)⟩
theorem ie_str {x j} : IE T ca X W (.Constant (.str x) j pos) (mC (.str x)) := ⟨pe_imp pe_str fun σ H Q ⟨S, env, lv, rel, fin⟩ => fin _ H .refl (.str x)⟩
theorem ie_bl {x j} : IE T ca X W (.Constant (.bool x) j pos) (mC (.bool x)) := ⟨pe_imp pe_bl fun σ H Q ⟨S, env, lv, rel, fin⟩ => fin _ H .refl (.bl x)⟩
theorem ie_non {j} : IE T ca X W (.Constant .none j pos) (mC .none) := ⟨pe_imp pe_non fun σ H Q ⟨S, env, lv, rel, fin⟩ => fin _ H .refl .non⟩
/-- a name of the module that holds a number or a text -/
theorem ie_gint {x : Str} {n : Int} {t : Tok} (hm : X.mg x = some (.int n t)) (hg : Gl X x := by rfl) (hd : (x == ("__debug__" : Str)) = false := by decide) : IE T ca X W (.Name x pos) (mC (.int n)) :=
  ⟨pe_imp (pe_glob (v := .int n) hg hm ⟨t, rfl⟩ hd) fun σ H Q ⟨S, env, lv, rel, fin⟩ => fin _ H .refl (.int n)⟩
theorem ie_gstr {x z : Str} {t : Tok} (hm : X.mg x = some (.str z t)) (hg : Gl X x := by rfl) (hd : (x == ("__debug__" : Str)) = false := by decide) : IE T ca X W (.Name x pos) (mC (.str z)) :=
  ⟨pe_imp (pe_glob (v := .str z) hg hm ⟨t, rfl⟩ hd) fun σ H Q ⟨S, env, lv, rel, fin⟩ => fin _ H .refl (.str z)⟩
/-- two operands in a row -/
theorem op_pre {S : List Addr} {env : Env} {σ : L2.St} {H : Hp} {Q : VK} {r : R2} {g : D → D → Option D} (lv : Live T S H) (rel : RelE X.K (hide S H) env σ) (fin : Fin T ca (Rv X.K S) W σ H (m2 g ma mb env) Q) (hr : Imp2 T X.K r g) : tOp r (tI T ca X.K W ma) (tI T ca X.K W mb) σ H Q :=
  ⟨S, env, lv, rel, Fin.bind (R' := Rv X.K S) fin fun d v H1 _ p1 r1 f1 => ⟨S, env, lv.le p1, rel.le p1, Fin.bind (R' := Rv X.K S) f1 fun e u H2 _ p2 r2 f2 => by
    obtain ⟨z, hz, w⟩ := f2.some
    exact hr S v u d e z H2 Q ((lv.le p1).le p2) (Rp.le p2.rd r1) r2 hz w⟩⟩
theorem ie_op {op : Operator} {r : R2} {g : D → D → Option D} (ho : OpR X (binaryOp op) r) (hr : Imp2 T X.K r g) (ha : IE T ca X W a ma) (hb : IE T ca X W b mb) : IE T ca X W (.BinOp a op b pos) (m2 g ma mb) :=
  ⟨pe_imp (pe_op ho ha.pe hb.pe) fun σ H Q ⟨S, env, lv, rel, fin⟩ => op_pre lv rel fin hr⟩
theorem ie_cmp {op : CmpOp} {r : R2} {g : D → D → Option D} (ho : OpR X (compareOp op) r) (hr : Imp2 T X.K r g) (ha : IE T ca X W a ma) (hb : IE T ca X W b mb) (hm : behindInMarks op b = false := by first | exact nomark _ | rfl) : IE T ca X W (.Compare a [op] [b] pos) (m2 g ma mb) :=
  ⟨pe_imp (pe_cmpR ho ha.pe hb.pe hm) fun σ H Q ⟨S, env, lv, rel, fin⟩ => op_pre lv rel fin hr⟩
/-- a test that is a bool's -/
theorem fin_T {S : List Addr} {σ : L2.St} {H : Hp} {r : Res D} {Q : Bool → Hp → Prop} (fin : Fin T ca Rb W σ H (r.bind fun d => ofO (isB d)) Q) : Fin T ca (Rv X.K S) W σ H r fun v H' => ∃ k, v = .bl k ∧ Q k H' :=
  Fin.bind (R' := Rv X.K S) fin fun d v H1 _ p1 r1 f1 => by
    obtain ⟨z, hz, w⟩ := f1.some
    cases d <;> cases hz
    cases rp_bl r1
    exact ⟨_, rfl, w _ H1 .refl rfl⟩
theorem it_val (ha : IE T ca X W e ma) (he : ∀ whole, isTrue e X.env whole = (do let v ← whole; standAt e.pos; holding [v] (truthy v)) := by intro _; rfl) : IT T ca X W e (mT ma) :=
  ⟨pt_imp (pt_val ha.pe he) fun σ H Q ⟨S, env, lv, rel, fin⟩ => ⟨S, env, lv, rel, fin_T (X := X) fin⟩⟩
theorem it_cmp {op : CmpOp} {r : R2} {g : D → D → Option D} (ho : OpR X (compareOp op) r) (hr : Imp2 T X.K r g) (ha : IE T ca X W a ma) (hb : IE T ca X W b mb) (hm : behindInMarks op b = false := by first | exact nomark _ | rfl) : IT T ca X W (.Compare a [op] [b] pos) (mT (m2 g ma mb)) :=
  ⟨pt_imp (pt_cmpR ho ha.pe hb.pe hm) fun σ H Q ⟨S, env, lv, rel, fin⟩ => op_pre lv rel (fin_T (X := X) (S := S) fin) hr⟩
theorem ie_neg (ha : IE T ca X W a ma) : IE T ca X W (.UnaryOp .USub a pos) (m1 gNeg ma) :=
  ⟨pe_imp (pe_un un_neg ha.pe) fun σ H Q ⟨S, env, lv, rel, fin⟩ => ⟨S, env, lv, rel, Fin.bind (R' := Rv X.K S) fin fun d v H1 _ p1 r1 f1 => by
    obtain ⟨z, hz, w⟩ := f1.some
    exact imp_neg (X := X) S v d z H1 Q (lv.le p1) r1 hz w⟩⟩
theorem chain_pre {S : List Addr} {env : Env} {σ : L2.St} {H : Hp} {Q : VK} {r r' : R2} {g g' : D → D → Option D} (lv : Live T S H) (rel : RelE X.K (hide S H) env σ) (fin : Fin T ca (Rv X.K S) W σ H (mChain g g' ma mb mc env) Q) (hr : Imp2 T X.K r g) (hr' : Imp2 T X.K r' g') :
    tChain r r' (tI T ca X.K W ma) (tI T ca X.K W mb) (tI T ca X.K W mc) σ H Q :=
  ⟨S, env, lv, rel, Fin.bind (R' := Rv X.K S) fin fun d v H1 _ p1 r1 f1 => ⟨S, env, lv.le p1, rel.le p1, Fin.bind (R' := Rv X.K S) f1 fun e u H2 _ p2 r2 f2 => by
    have lv2 := (lv.le p1).le p2
    cases hz : g d e with
    | none => rw [hz] at f2; exact f2.elim
    | some z =>
      rw [hz] at f2
      have f2 : Fin T ca (Rv X.K S) W σ H2 ((ofO (isB z)).bind fun x => if x = true then (mc env).bind fun f => ofO (g' e f) else .ok (.bool false)) Q := f2
      cases hb : isB z with
      | none => rw [hb] at f2; exact f2.elim
      | some k =>
        rw [hb] at f2
        have f2 : Fin T ca (Rv X.K S) W σ H2 (if k = true then (mc env).bind fun f => ofO (g' e f) else .ok (.bool false)) Q := f2
        cases z <;> cases hb
        refine hr S v u d e _ H2 _ lv2 (Rp.le p2.rd r1) r2 hz fun w' H3 p3 r3 => ⟨k, rp_bl r3, ?_⟩
        cases k with
        | true =>
          rw [if_pos rfl]
          have f3 : Fin T ca (Rv X.K S) W σ H2 ((mc env).bind fun f => ofO (g' e f)) Q := f2
          exact ⟨S, env, lv2.le p3, ((rel.le p1).le p2).le p3, Fin.bind (R' := Rv X.K S) (f3.le p3) fun f q H4 _ p4 r4 f4 => by
            obtain ⟨z', hz', w''⟩ := f4.some
            exact hr' S u q e f z' H4 Q ((lv2.le p3).le p4) (Rp.le (p3.trans p4).rd r2) r4 hz' w''⟩
        | false =>
          rw [if_neg Bool.false_ne_true]
          have f3 : Fin T ca (Rv X.K S) W σ H2 (.ok (.bool false)) Q := f2
          exact (f3.le p3) _ H3 .refl (.bl false)⟩⟩
theorem ie_chain {op op' : CmpOp} {r r' : R2} {g g' : D → D → Option D} (ho : OpR X (compareOp op) r) (ho' : OpR X (compareOp op') r') (hr : Imp2 T X.K r g) (hr' : Imp2 T X.K r' g') (ha : IE T ca X W a ma) (hb : IE T ca X W b mb) (hc : IE T ca X W c mc) (hm : lastMarks [op, op'] [b, c] = false := by with_unfolding_all rfl) :
    IE T ca X W (.Compare a [op, op'] [b, c] pos) (mChain g g' ma mb mc) := ⟨pe_imp (pe_chain ho ho' ha.pe hb.pe hc.pe hm) fun σ H Q ⟨S, env, lv, rel, fin⟩ => chain_pre lv rel fin hr hr'⟩
theorem it_chain {op op' : CmpOp} {r r' : R2} {g g' : D → D → Option D} (ho : OpR X (compareOp op) r) (ho' : OpR X (compareOp op') r') (hr : Imp2 T X.K r g) (hr' : Imp2 T X.K r' g') (ha : IE T ca X W a ma) (hb : IE T ca X W b mb) (hc : IE T ca X W c mc) (hm : lastMarks [op, op'] [b, c] = false := by with_unfolding_all rfl) :
    IT T ca X W (.Compare a [op, op'] [b, c] pos) (mT (mChain g g' ma mb mc)) := ⟨pt_imp (pt_chain ho ho' ha.pe hb.pe hc.pe hm) fun σ H Q ⟨S, env, lv, rel, fin⟩ => chain_pre lv rel (fin_T (X := X) (S := S) fin) hr hr'⟩
/-! and, or, not, if -/
theorem iw_one {op : BoolOp} (h : IT T ca X W a ta) (hw : ∀ {t : TT}, PT X a t → PW X (.BoolOp op [a] pos) t) : IW T ca X W (.BoolOp op [a] pos) ta := ⟨hw h.pt⟩
theorem iw_and1 (h : IT T ca X W a ta) : IW T ca X W (.BoolOp .And [a] pos) ta := ⟨pw_and1 h.pt⟩
theorem iw_or1 (h : IT T ca X W a ta) : IW T ca X W (.BoolOp .Or [a] pos) ta := ⟨pw_or1 h.pt⟩
theorem iw_and {rest : List Expr} (h : IT T ca X W a ta) (h' : IW T ca X W (.BoolOp .And (b :: rest) pos) tb) : IW T ca X W (.BoolOp .And (a :: b :: rest) pos) (mAnd ta tb) :=
  ⟨pw_imp (pw_and h.pt h'.pw) fun σ H Q ⟨S, env, lv, rel, fin⟩ => ⟨S, env, lv, rel, Fin.bind (R' := Rb) fin fun d v H1 _ p1 r1 f1 => by
    cases (show v = d from r1)
    cases d with
    | true => exact ⟨S, env, lv.le p1, rel.le p1, f1⟩
    | false => exact f1 false H1 .refl rfl⟩⟩
theorem iw_or {rest : List Expr} (h : IT T ca X W a ta) (h' : IW T ca X W (.BoolOp .Or (b :: rest) pos) tb) : IW T ca X W (.BoolOp .Or (a :: b :: rest) pos) (mOr ta tb) :=
  ⟨pw_imp (pw_or h.pt h'.pw) fun σ H Q ⟨S, env, lv, rel, fin⟩ => ⟨S, env, lv, rel, Fin.bind (R' := Rb) fin fun d v H1 _ p1 r1 f1 => by
    cases (show v = d from r1)
    cases d with
    | true => exact f1 true H1 .refl rfl
    | false => exact ⟨S, env, lv.le p1, rel.le p1, f1⟩⟩⟩
theorem IW.it (h : IW T ca X W e ta) : IT T ca X W e ta := ⟨h.pw.pt⟩
theorem it_not (h : IT T ca X W a ta) : IT T ca X W (.UnaryOp .Not a pos) (mNot ta) :=
  ⟨pt_imp (pt_not h.pt) fun σ H Q ⟨S, env, lv, rel, fin⟩ => ⟨S, env, lv, rel, Fin.bind (R' := Rb) fin fun d v H1 _ p1 r1 f1 => by
    cases (show v = d from r1)
    exact f1 _ H1 .refl rfl⟩⟩
theorem ie_one {op : BoolOp} (h : IE T ca X W a ma) : IE T ca X W (.BoolOp op [a] pos) ma := ⟨pe_one h.pe⟩
theorem fin_B {S : List Addr} {σ : L2.St} {H : Hp} {r : Res D} {k : Bool → Res D} {Q : VK} {Q' : VK} (fin : Fin T ca (Rv X.K S) W σ H (r.bind fun d => (ofO (isB d)).bind k) Q)
    (h : ∀ x H1, Pe T H H1 → Fin T ca (Rv X.K S) W σ H1 (k x) Q → Q' (.bl x) H1) : Fin T ca (Rv X.K S) W σ H r Q' :=
  Fin.bind (R' := Rv X.K S) fin fun d v H1 _ p1 r1 f1 => by
    cases d with
    | bool b => cases rp_bl r1; exact h b H1 p1 f1
    | _ => exact f1.elim
theorem ie_and {rest : List Expr} (h : IE T ca X W a ma) (h' : IE T ca X W (.BoolOp .And (b :: rest) pos) mb) : IE T ca X W (.BoolOp .And (a :: b :: rest) pos) (mAndV ma mb) :=
  ⟨pe_imp (pe_and h.pe h'.pe) fun σ H Q ⟨S, env, lv, rel, fin⟩ => ⟨S, env, lv, rel, fin_B (X := X) fin fun x H1 p1 f1 => ⟨x, rfl, by
    cases x with
    | true => exact ⟨S, env, lv.le p1, rel.le p1, f1⟩
    | false => exact f1 _ H1 .refl (.bl false)⟩⟩⟩
theorem ie_or {rest : List Expr} (h : IE T ca X W a ma) (h' : IE T ca X W (.BoolOp .Or (b :: rest) pos) mb) : IE T ca X W (.BoolOp .Or (a :: b :: rest) pos) (mOrV ma mb) :=
  ⟨pe_imp (pe_or h.pe h'.pe) fun σ H Q ⟨S, env, lv, rel, fin⟩ => ⟨S, env, lv, rel, fin_B (X := X) fin fun x H1 p1 f1 => ⟨x, rfl, by
    cases x with
    | true => exact f1 _ H1 .refl (.bl true)
    | false => exact ⟨S, env, lv.le p1, rel.le p1, f1⟩⟩⟩⟩
theorem ie_not (h : IE T ca X W a ma) : IE T ca X W (.UnaryOp .Not a pos) (mNotV ma) :=
  ⟨pe_imp (pe_not h.pe) fun σ H Q ⟨S, env, lv, rel, fin⟩ => ⟨S, env, lv, rel, fin_B (X := X) fin fun x H1 p1 f1 => ⟨x, rfl, f1 _ H1 .refl (.bl _)⟩⟩⟩
theorem ie_if (h : IT T ca X W c ta) (h1 : IE T ca X W a ma) (h2 : IE T ca X W b mb) : IE T ca X W (.IfExp c a b pos) (mIf ta ma mb) :=
  ⟨pe_imp (pe_ifExp h.pt h1.pe h2.pe) fun σ H Q ⟨S, env, lv, rel, fin⟩ => ⟨S, env, lv, rel, Fin.bind (R' := Rb) fin fun d v H1 _ p1 r1 f1 => by
    cases (show v = d from r1)
    cases d with
    | true => exact ⟨S, env, lv.le p1, rel.le p1, f1⟩
    | false => exact ⟨S, env, lv.le p1, rel.le p1, f1⟩⟩⟩
/-! argument lists, displays, calls -/
theorem ia_nil : IA T ca X W [] mNil := ⟨pa_imp pa_nil fun σ H Q ⟨S, env, lv, rel, fin⟩ => fin [] H .refl .nil⟩
theorem ia_cons (h : IE T ca X W e ma) (hr : IA T ca X W es ms) (hs : starEach (e :: es) X.env = (false, eval e X.env) :: starEach es X.env := by rfl) : IA T ca X W (e :: es) (mCons ma ms) :=
  ⟨pa_imp (pa_cons h.pe hr.pa hs) fun σ H Q ⟨S, env, lv, rel, fin⟩ => ⟨S, env, lv, rel, Fin.bind (R' := Rv X.K S) fin fun d v H1 _ p1 r1 f1 => ⟨S, env, lv.le p1, rel.le p1, Fin.bind (R' := Ra X.K S) f1 fun ds vs H2 _ p2 r2 f2 => f2 (v :: vs) H2 .refl (.cons (Rp.le p2.rd r1) r2)⟩⟩⟩
theorem fin_N {S : List Addr} {σ : L2.St} {H : Hp} {r : Res (List D)} {g : List D → Option D} {Q : VK} {Q' : List V → Hp → Prop} (lv : Live T S H) (fin : Fin T ca (Rv X.K S) W σ H (r.bind fun ds => ofO (g ds)) Q)
    (h : ∀ vs ds z H1, Live T S H1 → RpAll X.K (hide S H1) vs ds → g ds = some z → Wants T X.K S H1 z Q → Q' vs H1) : Fin T ca (Ra X.K S) W σ H r Q' :=
  Fin.bind (R' := Ra X.K S) fin fun ds vs H1 _ p1 r1 f1 => by
    obtain ⟨z, hz, w⟩ := f1.some
    exact h vs ds z H1 (lv.le p1) r1 hz w
theorem ie_tup {x1} (h : IA T ca X W es ms) : IE T ca X W (.Tuple es x1 pos) (mB gTup ms) :=
  ⟨pe_imp (pe_tup h.pa) fun σ H Q ⟨S, env, lv, rel, fin⟩ => ⟨S, env, lv, rel, fin_N (X := X) lv fin fun vs ds z H1 lv1 r g w => by
    unfold gTup at g
    split at g
    · cases g
      exact ⟨by rw [r.length]; exact big_ok (by assumption), w.ntup lv1 r⟩
    · cases g⟩⟩
theorem ie_lst (h : IA T ca X W es ms) : IE T ca X W (.List es pos) (mB gLst ms) :=
  ⟨pe_imp (pe_lst h.pa) fun σ H Q ⟨S, env, lv, rel, fin⟩ => ⟨S, env, lv, rel, fin_N (X := X) lv fin fun vs ds z H1 lv1 r g w => by
    unfold gLst at g
    split at g
    · cases g
      exact ⟨by rw [r.length]; exact big_ok (by assumption), w.nlst lv1 r⟩
    · cases g⟩⟩
/-- [..] * k -/
def gRepL (k : Int) (ds : List D) : Option D := if big ds.length && decide (0 ≤ k) && decide (k ≤ 100) && big (ds.length * k.toNat) = true then some (.list (List.replicate k.toNat ds).flatten) else none
theorem ie_rep {j p p2 k} (h : IA T ca X W es ms) : IE T ca X W (.BinOp (.List es p) .Mult (.Constant (.int k) j p2) pos) (mB (gRepL k) ms) :=
  ⟨pe_imp (pe_op op_rep (pe_lst h.pa) pe_int) fun σ H Q ⟨S, env, lv, rel, fin⟩ => ⟨S, env, lv, rel, fin_N (X := X) lv fin fun vs ds z H1 lv1 r g w => by
    unfold gRepL at g
    split at g
    · rename_i hc
      simp only [Bool.and_eq_true, decide_eq_true_eq] at hc
      obtain ⟨⟨⟨h1, h2⟩, h3⟩, h4⟩ := hc
      cases g
      have el := r.length
      refine ⟨by rw [el]; exact big_ok h1, fun l hl => ⟨l, k, vs, rfl, rfl, upd_same, by omega, by omega, by rw [el]; exact big_ok h4, ?_⟩⟩
      have p1 : Pe T H1 (upd H1 l (.lst vs)) := .new hl
      intro p hp
      refine w _ _ (p1.trans (.new hp)) (.lst (.inl (.inl ((lv1.le p1).new hp))) ?_)
      have r' := RpAll.le ((p1.trans (.new (o := .lst (List.replicate k.toNat vs).flatten) hp)).rd) r
      clear w h2 h3 h4 hp
      revert r'
      generalize hide S _ = G
      intro r'
      induction k.toNat with
      | zero => exact .nil
      | succ n ih => rw [List.replicate_succ, List.replicate_succ, List.flatten_cons, List.flatten_cons]; exact r'.app ih
    · cases g⟩⟩
theorem ie_callB {x : Str} {id : String} {p : Pos} {r : List V → Hp → VK → Prop} {g : List D → Option D} (hc : CallR X (.builtin id) r) (hr : ImpN T X.K r g) (hv : bootBuiltins x = some (.builtin id)) (hm : X.mg x = none) (h : IA T ca X W (e :: es) ms) (hg : Gl X x := by rfl) (hn : x ≠ "__name__" := by decide) (hdb : (x == ("__debug__" : Str)) = false := by decide)
    (he : starEach (e :: es) X.env = (false, eval e X.env) :: starEach es X.env := by rfl) (hpl : (backTo pos (starEach es X.env)).any (·.1) = false := by rfl) : IE T ca X W (.Call (.Name x p) (e :: es) [] pos) (mB g ms) :=
  ⟨pe_imp (pe_callB hc hg hm hv h.pa hn hdb he hpl) fun σ H Q ⟨S, env, lv, rel, fin⟩ => ⟨S, env, lv, rel, fin_N (X := X) lv fin fun vs ds z H1 lv1 r1 g w => hr S vs ds z H1 Q lv1 r1 g w⟩⟩
theorem ie_callTy {x : Str} {id : String} {p : Pos} {r : List V → Hp → VK → Prop} {g : List D → Option D} (hc : CallR X (.type id) r) (hr : ImpN T X.K r g) (hv : bootBuiltins x = some (.type id)) (hm : X.mg x = none) (h : IA T ca X W (e :: es) ms) (hg : Gl X x := by rfl) (hn : x ≠ "__name__" := by decide) (hdb : (x == ("__debug__" : Str)) = false := by decide)
    (he : starEach (e :: es) X.env = (false, eval e X.env) :: starEach es X.env := by rfl) (hpl : (backTo pos (starEach es X.env)).any (·.1) = false := by rfl) : IE T ca X W (.Call (.Name x p) (e :: es) [] pos) (mB g ms) :=
  ⟨pe_imp (pe_callTy hc hg hm hv h.pa hn hdb he hpl) fun σ H Q ⟨S, env, lv, rel, fin⟩ => ⟨S, env, lv, rel, fin_N (X := X) lv fin fun vs ds z H1 lv1 r1 g w => hr S vs ds z H1 Q lv1 r1 g w⟩⟩
/-! slices, items -/
theorem io_none : PO X none (tNoPart) := po_none
theorem ie_ix {r : R2} {g : D → D → Option D} (hr : IxR X r) (hi : Imp2 T X.K r g) (ha : IE T ca X W a ma) (hb : IE T ca X W b mb) (hs : PlainIx b := by exact fun _ _ => rfl) : IE T ca X W (.Subscript a b pos) (m2 g ma mb) :=
  ⟨pe_imp (pe_ix hr ha.pe hb.pe hs) fun σ H Q ⟨S, env, lv, rel, fin⟩ => op_pre lv rel fin hi⟩
end
section
variable {T : Gam} {X : Cx}
theorem at_rp {K : PySem.W.Frag} {G : Hp} {vs : List V} {ds : List D} {i : Int} {d : D} (r : RpAll K G vs ds) (h : atI ds i = some d) : ∃ v, atI vs i = some v ∧ Rp K G v d := by
  unfold atI at h ⊢
  rw [r.length]
  cases e : ixN ds.length i with
  | none => rw [e] at h; cases h
  | some j =>
    rw [e] at h
    exact RpAll.get r h
theorem imp_ix : Imp2 T X.K (rIx X.K) gIx := by
  intro S x y d e z H Q lv rx ry g w
  unfold gIx at g
  split at g
  · obtain ⟨a, xs, rfl, h1, r1⟩ := rp_lst rx
    cases rp_int ry
    obtain ⟨v, e1, rv⟩ := at_rp r1 g
    exact .inl ⟨a, xs, _, v, rfl, rfl, sqL_hide h1, e1, w.same rv⟩
  · obtain ⟨a, xs, rfl, h1, r1⟩ := rp_tup rx
    cases rp_int ry
    obtain ⟨v, e1, rv⟩ := at_rp r1 g
    exact .inr (.inl ⟨a, xs, _, v, rfl, rfl, tup_hide h1, e1, w.same rv⟩)
  · cases rp_str rx
    cases rp_int ry
    split at g
    · rename_i hb
      obtain ⟨c, hc, rfl⟩ := Option.map_eq_some_iff.mp g
      exact .inr (.inr ⟨_, _, c, rfl, rfl, big_ok hb, hc, w.str⟩)
    · cases g
  · cases g
theorem imp_abs : ImpN T X.K (fun xs H Q => ∃ i, xs = [.int i] ∧ Q (.int (if i < 0 then -i else i)) H) gAbs := by
  intro S xs ds z H Q lv r g w
  unfold gAbs at g
  split at g
  · cases r with
    | cons h r => cases r; cases rp_int h; cases g; exact ⟨_, rfl, w.int⟩
  · cases g
def rLenG (K : PySem.W.Frag) : List V → Hp → VK → Prop := fun xs H Q => (∃ p ys, xs = [.ref p] ∧ (SqL K H p ys ∨ SqT K H p ys) ∧ Q (.int ys.length) H) ∨ ∃ z : Str, xs = [.str z] ∧ z.length ≤ sizeLine ∧ Q (.int z.length) H
theorem call_lenG : CallR X (.builtin "len") (rLenG X.K) := CallR.or call_len_seq call_len_str
theorem imp_len : ImpN T X.K (rLenG X.K) gLen := by
  intro S xs ds z H Q lv r g w
  unfold gLen at g
  split at g
  · cases r with
    | cons h r =>
      cases r
      cases g
      obtain ⟨a, ys, rfl, h1, r1⟩ := rp_lst h
      exact .inl ⟨a, ys, rfl, .inl (sqL_hide h1), by rw [r1.length]; exact w.int⟩
  · cases r with
    | cons h r =>
      cases r
      cases g
      obtain ⟨a, ys, rfl, h1, r1⟩ := rp_tup h
      exact .inl ⟨a, ys, rfl, .inr (tup_hide h1), by rw [r1.length]; exact w.int⟩
  · split at g
    · cases r with
      | cons h r => cases r; cases rp_str h; cases g; exact .inr ⟨_, rfl, big_ok (by assumption), w.int⟩
    · cases g
  · cases g
theorem bools_rp {K : PySem.W.Frag} {G : Hp} : ∀ {vs : List V} {ds : List D} {bs : List Bool}, RpAll K G vs ds → boolsOf ds = some bs → vs = bs.map V.bl
  | _, _, _, .nil, h => by cases h; rfl
  | _, _, _, .cons (d := d) h r, e => by
    cases d with
    | bool b =>
      obtain ⟨bs, h1, rfl⟩ := Option.map_eq_some_iff.mp e
      cases rp_bl h
      rw [bools_rp r h1] <;> rfl
    | _ => cases e
theorem ints_rp {K : PySem.W.Frag} {G : Hp} : ∀ {vs : List V} {ds : List D} {bs : List Int}, RpAll K G vs ds → intsOf ds = some bs → vs = bs.map V.int
  | _, _, _, .nil, h => by cases h; rfl
  | _, _, _, .cons (d := d) h r, e => by
    cases d with
    | int b =>
      obtain ⟨bs, h1, rfl⟩ := Option.map_eq_some_iff.mp e
      cases rp_int h
      rw [ints_rp r h1] <;> rfl
    | _ => cases e
theorem imp_all : ImpN T X.K (rAll X.K) gAll := by
  intro S xs ds z H Q lv r g w
  unfold gAll at g
  split at g
  · cases r with
    | cons h r =>
      cases r
      obtain ⟨bs, e, rfl⟩ := Option.map_eq_some_iff.mp g
      obtain ⟨a, ys, rfl, h1, r1⟩ := rp_lst h
      exact ⟨a, bs, rfl, by rw [← bools_rp r1 e]; exact sqL_hide h1, w.bl⟩
  · cases g
theorem imp_any : ImpN T X.K (rAny X.K) gAny := by
  intro S xs ds z H Q lv r g w
  unfold gAny at g
  split at g
  · cases r with
    | cons h r =>
      cases r
      obtain ⟨bs, e, rfl⟩ := Option.map_eq_some_iff.mp g
      obtain ⟨a, ys, rfl, h1, r1⟩ := rp_lst h
      exact ⟨a, bs, rfl, by rw [← bools_rp r1 e]; exact sqL_hide h1, w.bl⟩
  · cases g
theorem imp_sum : ImpN T X.K (rSum X.K) gSum := by
  intro S xs ds z H Q lv r g w
  unfold gSum at g
  split at g
  · cases r with
    | cons h r =>
      cases r
      obtain ⟨bs, e, rfl⟩ := Option.map_eq_some_iff.mp g
      obtain ⟨a, ys, rfl, h1, r1⟩ := rp_lst h
      exact ⟨a, bs, rfl, by rw [← ints_rp r1 e]; exact sqL_hide h1, w.int⟩
  · cases g
theorem imp_int : ImpN T X.K (fun xs H Q => (∃ i, xs = [.int i] ∧ Q (.int i) H) ∨ ∃ k, xs = [.bl k] ∧ Q (.int (if k then 1 else 0)) H) gInt := by
  intro S xs ds z H Q lv r g w
  unfold gInt at g
  split at g
  · cases r with
    | cons h r => cases r; cases rp_int h; cases g; exact .inl ⟨_, rfl, w.int⟩
  · cases r with
    | cons h r => cases r; cases rp_bl h; cases g; exact .inr ⟨_, rfl, w.int⟩
  · cases g
theorem imp_max2 : ImpN T X.K (fun xs H Q => ∃ i j, xs = [.int i, .int j] ∧ Q (.int (if j > i then j else i)) H) gMax2 := by
  intro S xs ds z H Q lv r g w
  unfold gMax2 at g
  split at g
  · cases r with
    | cons h r => cases r with
      | cons h2 r => cases r; cases rp_int h; cases rp_int h2; cases g; exact ⟨_, _, rfl, w.int⟩
  · cases g
theorem imp_min2 : ImpN T X.K (fun xs H Q => ∃ i j, xs = [.int i, .int j] ∧ Q (.int (if j < i then j else i)) H) gMin2 := by
  intro S xs ds z H Q lv r g w
  unfold gMin2 at g
  split at g
  · cases r with
    | cons h r => cases r with
      | cons h2 r => cases r; cases rp_int h; cases rp_int h2; cases g; exact ⟨_, _, rfl, w.int⟩
  · cases g
theorem imp_tupOf : ImpN T X.K (fun xs H Q => ∃ p ys, xs = [.ref p] ∧ ((SqL X.K H p ys ∧ ∀ l, H l = none → Q (.ref l) (upd H l (.tup ys))) ∨ (SqT X.K H p ys ∧ Q (.ref p) H))) gTupOf := by
  intro S xs ds z H Q lv r g w
  unfold gTupOf at g
  split at g
  · cases r with
    | cons h r =>
      cases r
      cases g
      obtain ⟨a, ys, rfl, h1, r1⟩ := rp_lst h
      exact ⟨a, ys, rfl, .inl ⟨sqL_hide h1, w.ntup lv r1⟩⟩
  · cases r with
    | cons h r =>
      cases r
      cases g
      obtain ⟨a, ys, rfl, h1, r1⟩ := rp_tup h
      exact ⟨a, ys, rfl, .inr ⟨tup_hide h1, w.same (.tup h1 r1)⟩⟩
  · cases g
end
end IL
namespace IL
open PySem PySem.Spec PyProof.Rows L2
/-! ### isinstance of data against a built-in class -/
def tyName : D → String
  | .none => "NoneType"
  | .bool _ => "bool"
  | .int _ => "int"
  | .str _ => "str"
  | .list _ => "list"
  | .tuple _ => "tuple"
  | .dict _ => "dict"
def gIsi (n : String) (d : D) : Option D := if isOb d = true then none else (kitB (tyName d) n).map .bool
theorem gIsi_is {n : String} {d z : D} (h : gIsi n d = some z) : isOb d = false ∧ (kitB (tyName d) n).map .bool = some z := by
  unfold gIsi at h
  split at h
  · cases h
  · rename_i q
    exact ⟨by simpa using q, h⟩
section
variable {T : Gam} {ca : XC → Addr} {X : Cx} {W : WX} {e a b c o i : Expr} {es : List Expr} {pos : Pos} {ma mb mc : Ev} {ms : Env → Res (List D)} {ta tb : Env → Res Bool}
theorem kit_rp {pins : List (Addr × Obj)} {σ : L2.St} {H : Hp} {s : Shared} {x : V} {u : Value} {d : D} (I : Inv X pins σ H s) (rx : RelV x u) (h : Rp X.K H x d) (no : isOb d = false) :
    ∃ P : Heap → Prop, PySem.W.KitX X.K u (.type (tyName d)) P ∧ P s.heap ∧ u ≠ .builtin "__main__.__loader__#opaque" := by
  cases h with
  | non => cases (show u = Value.none from rx); exact ⟨_, PySem.W.kitx_none, True.intro, fun z => nomatch z⟩
  | bl y => cases (show u = Value.bool y from rx); exact ⟨_, PySem.W.kitx_bool, True.intro, fun z => nomatch z⟩
  | int i => obtain ⟨t, q⟩ := (show ∃ t, u = Value.int i t from rx); cases q; exact ⟨_, PySem.W.kitx_int, True.intro, fun z => nomatch z⟩
  | str y => obtain ⟨t, q⟩ := (show ∃ t, u = Value.str y t from rx); cases q; exact ⟨_, PySem.W.kitx_str, True.intro, fun z => nomatch z⟩
  | lst h r =>
    cases rx
    obtain ⟨its, _, ⟨ob, n, e1, e2, _⟩, _⟩ := I.list h
    exact ⟨_, PySem.W.kitx_list, ⟨ob, e1, e2⟩, fun z => nomatch z⟩
  | tup h r =>
    cases rx
    obtain ⟨_, _, _, ob, e1, e2, _⟩ := I.hok _ _ h
    exact ⟨_, PySem.W.kitx_tuple, ⟨ob, e1, e2⟩, fun z => nomatch z⟩
  | dT h r =>
    cases rx
    obtain ⟨_, _, xs, _, ob, es, ep, e1, e2, _⟩ := h.ok I.hok
    exact ⟨_, PySem.W.kitx_dict, ⟨ob, e1, e2.1⟩, fun z => nomatch z⟩
  | dK h r =>
    cases rx
    obtain ⟨_, _, vs, _, ob, es, ep, e1, e2, _⟩ := h.ok I.hok
    exact ⟨_, PySem.W.kitx_dict, ⟨ob, e1, e2.1⟩, fun z => nomatch z⟩
  | ob => cases no
def rIsiP (K : PySem.W.Frag) : List V → Hp → VK → Prop := fun xs H Q => ∃ (x : V) (n : String) (d : D) (b : Bool), xs = [x, .ty n] ∧ Rp K H x d ∧ isOb d = false ∧ kitB (tyName d) n = some b ∧ Q (.bl b) H
theorem call_isiP : CallR X (.builtin "isinstance") (rIsiP X.K) := by
  intro pins s σ H xs us Q I r h
  obtain ⟨x, n, d, b, rfl, hx, no, e, q⟩ := h
  obtain ⟨u1, u2, rfl, r1, r2⟩ := vals2 r
  cases (show u2 = Value.type n from r2)
  obtain ⟨P, Z, p, ne⟩ := kit_rp I r1 hx no
  exact PySem.W.kia_one Z I.kIn p (kit_ty e) ne fun tk => ⟨.bl b, H, I.tok tk, rfl, q⟩
theorem ie_isi {t : Str} {n : String} {p p2 : Pos} (hv : bootBuiltins t = some (.type n)) (h : IE T ca X W a ma) (hmt : X.mg t = none) (hm : X.mg "isinstance" = none) (hgt : Gl X t := by rfl) (hg : Gl X "isinstance" := by rfl) (hnt : t ≠ "__name__" := by decide) (hdt : (t == ("__debug__" : Str)) = false := by decide)
    (hs : starEach (a :: [.Name t p2]) X.env = (false, eval a X.env) :: starEach [.Name t p2] X.env := by rfl) (hpl : (backTo pos (starEach [.Name t p2] X.env)).any (·.1) = false := by rfl) : IE T ca X W (.Call (.Name "isinstance" p) [a, .Name t p2] [] pos) (m1 (gIsi n) ma) :=
  ⟨pe_imp (pe_callB call_isiP hg hm (by decide +kernel) (pa_cons h.pe (pa_cons (pe_bltn (v := .ty n) hgt hmt hv rfl hnt hdt) pa_nil) hs) (by decide) (by decide) hs hpl) fun σ H Q ⟨S, env, lv, rel, fin⟩ => ⟨S, env, lv, rel, Fin.bind (R' := Rv X.K S) fin fun d v H1 _ p1 r1 f1 => by
    obtain ⟨z, hz, w⟩ := f1.some
    obtain ⟨no, hz⟩ := gIsi_is hz
    obtain ⟨b, hb, rfl⟩ := Option.map_eq_some_iff.mp hz
    exact ⟨v, n, d, b, rfl, unhide r1, no, hb, Wants.bl (T := T) (K := X.K) (S := S) w⟩⟩⟩
/-! ### dicts with tuple keys -/
theorem toKeys_map : ∀ k : List Key, toKeys (k.map kD) = some k
  | [] => rfl
  | .inl i :: k => by
    show (toKeys (k.map kD)).map (Sum.inl i :: ·) = _
    rw [toKeys_map k] <;> rfl
  | .inr i :: k => by
    show (toKeys (k.map kD)).map (Sum.inr i :: ·) = _
    rw [toKeys_map k] <;> rfl
theorem keys_rp {K : PySem.W.Frag} {G : Hp} : ∀ {vs : List V} {ks : List D} {k : List Key}, RpAll K G vs ks → toKeys ks = some k → vs = k.map kV ∧ ks = k.map kD
  | _, _, _, .nil, e => by cases e; exact ⟨rfl, rfl⟩
  | _, _, _, .cons (d := d) h r, e => by
    cases d with
    | int i =>
      obtain ⟨k', e1, rfl⟩ := Option.map_eq_some_iff.mp e
      obtain ⟨e2, e3⟩ := keys_rp r e1
      cases rp_int h
      exact ⟨by rw [e2] <;> rfl, by rw [e3] <;> rfl⟩
    | str i =>
      obtain ⟨k', e1, rfl⟩ := Option.map_eq_some_iff.mp e
      obtain ⟨e2, e3⟩ := keys_rp r e1
      cases rp_str h
      exact ⟨by rw [e2] <;> rfl, by rw [e3] <;> rfl⟩
    | _ => cases e
theorem key_rp {K : PySem.W.Frag} {S : List Addr} {H : Hp} {v : V} {d : D} {k : List Key} (h : Rp K (hide S H) v d) (e : keyT d = some k) : ∃ q, v = .ref q ∧ H q = some (.tup (k.map kV)) ∧ d = .tuple (k.map kD) := by
  cases d with
  | tuple ks =>
    obtain ⟨a, xs, rfl, h1, r1⟩ := rp_tup h
    obtain ⟨e1, e2⟩ := keys_rp r1 e
    exact ⟨a, rfl, by rw [← e1]; exact (hide_some h1).2, by rw [e2]⟩
  | _ => cases e
theorem keyT_tuple (k : List Key) : keyT (.tuple (k.map kD)) = some k := toKeys_map k
theorem val_rp {K : PySem.W.Frag} {G : Hp} {k : List Key} : ∀ {kvs : List (List Key × V)} {es : List (D × D)}, RpT K G kvs es → (valV kvs k = none ∧ valT es k = none) ∨ ∃ v d, valV kvs k = some v ∧ valT es k = some d ∧ Rp K G v d
  | _, _, .nil => .inl ⟨rfl, rfl⟩
  | _, _, .cons (k := k') (v := v) (kvs := kvs) (d := d) (es := es) h r => by
    by_cases e : k' = k
    · refine .inr ⟨v, d, ?_, ?_, h⟩
      · show (((k', v) :: kvs).find? fun kv => decide (kv.1 = k)).map (·.2) = _
        rw [List.find?_cons_of_pos (by simpa using e)] <;> rfl
      · show (((PyData.tuple (k'.map kD), d) :: es).find? fun e => decide (keyT e.1 = some k)).map (·.2) = _
        rw [List.find?_cons_of_pos (by rw [keyT_tuple, e]; simp)] <;> rfl
    · have h1 : valV ((k', v) :: kvs) k = valV kvs k := by
        show (((k', v) :: kvs).find? fun kv => decide (kv.1 = k)).map (·.2) = _
        rw [List.find?_cons_of_neg (by simpa using e)] <;> rfl
      have h2 : valT ((PyData.tuple (k'.map kD), d) :: es) k = valT es k := by
        show (((PyData.tuple (k'.map kD), d) :: es).find? fun e => decide (keyT e.1 = some k)).map (·.2) = _
        rw [List.find?_cons_of_neg (by rw [keyT_tuple]; simpa using e)] <;> rfl
      rw [h1, h2]
      exact val_rp r
/-- a dict's datum whose first key is a tuple is a dict with tuple keys -/
theorem dT_rp {K : PySem.W.Frag} {S : List Addr} {H : Hp} {v : V} {e : D × D} {es : List (D × D)} (h : Rp K (hide S H) v (.dict (e :: es))) (hk : (keyT e.1).isSome = true) : ∃ a kvs, v = .ref a ∧ Rd H a (.dT kvs) ∧ RpT K (hide S H) kvs (e :: es) := by
  cases h with
  | dT h r => exact ⟨_, _, rfl, rd_hide h, r⟩
  | dK h r =>
    cases r with
    | @cons k _ _ _ _ h' r' => cases k <;> cases hk
  | ob => cases hk
theorem din_pre {S : List Addr} {env : Env} {σ : L2.St} {H : Hp} {Q : VK} (lv : Live T S H) (rel : RelE X.K (hide S H) env σ) (fin : Fin T ca (Rv X.K S) W σ H (m2 gDIn ma mb env) Q) : tDIn (tI T ca X.K W ma) (tI T ca X.K W mb) σ H Q :=
  ⟨S, env, lv, rel, Fin.bind (R' := Rv X.K S) fin fun d v H1 _ p1 r1 f1 => ⟨S, env, lv.le p1, rel.le p1, Fin.bind (R' := Rv X.K S) f1 fun e u H2 _ p2 r2 f2 => by
    obtain ⟨z, hz, w⟩ := f2.some
    unfold gDIn at hz
    split at hz
    · split at hz
      · obtain ⟨k, hk, rfl⟩ := Option.map_eq_some_iff.mp hz
        rename_i e0 es0 hs
        obtain ⟨a, kvs, rfl, hd, rr⟩ := dT_rp r2 hs
        obtain ⟨q, rfl, hq, _⟩ := key_rp (Rp.le p2.rd r1) hk
        refine ⟨a, _, rfl, .inr ⟨kvs, k, q, hd, rfl, hq, rfl⟩, ?_⟩
        rcases val_rp (k := k) rr with ⟨e1, e2⟩ | ⟨x, y, e1, e2, _⟩
        · rw [e1]
          rw [e2] at w
          exact Wants.bl (T := T) (K := X.K) (S := S) w
        · rw [e1]
          rw [e2] at w
          exact Wants.bl (T := T) (K := X.K) (S := S) w
      · cases hz
    · cases hz⟩⟩
theorem ie_din (hu : X.A.units + 64 < cLine) (ha : IE T ca X W a ma) (hb : IE T ca X W b mb) (h1 : behindInMarks .In b = false := by rfl) : IE T ca X W (.Compare a [.In] [b] pos) (m2 gDIn ma mb) :=
  ⟨pe_imp (pe_cmp (pc_din (by omega) ha.pe hb.pe) h1) fun σ H Q ⟨S, env, lv, rel, fin⟩ => din_pre lv rel fin⟩
theorem ie_dget (hu : X.A.units + 64 < cLine) (ha : IE T ca X W a ma) (hb : IE T ca X W b mb) (hs : NoSl b := by exact fun _ _ => rfl) : IE T ca X W (.Subscript a b pos) (m2 gDGet ma mb) :=
  ⟨pe_imp (pe_dget (by omega) ha.pe hb.pe hs) fun σ H Q ⟨S, env, lv, rel, fin⟩ => ⟨S, env, lv, rel, Fin.bind (R' := Rv X.K S) fin fun d v H1 _ p1 r1 f1 => ⟨S, env, lv.le p1, rel.le p1, Fin.bind (R' := Rv X.K S) f1 fun e u H2 _ p2 r2 f2 => by
    obtain ⟨z, hz, w⟩ := f2.some
    unfold gDGet at hz
    split at hz
    · split at hz
      · obtain ⟨k, hk, hv⟩ := Option.bind_eq_some_iff.mp hz
        rename_i e0 es0 _ hs
        obtain ⟨a, kvs, rfl, hd, rr⟩ := dT_rp (Rp.le p2.rd r1) hs
        obtain ⟨q, rfl, hq, _⟩ := key_rp r2 hk
        rcases val_rp (k := k) rr with ⟨e1, e2⟩ | ⟨x, y, e1, e2, e3⟩
        · rw [e2] at hv; cases hv
        · rw [e2] at hv
          cases hv
          exact ⟨a, x, rfl, .inr ⟨kvs, k, q, hd, rfl, hq, e1.symm⟩, Wants.same (T := T) (K := X.K) (S := S) w e3⟩
      · cases hz
    · cases hz⟩⟩⟩
/-! ### a def of the text, called -/
/-- f's promise: on data it answers as g does -/
def SpD (T : Gam) (ca : XC → Addr) (K : PySem.W.Frag) (n : Nat) (g : List D → Res D) : Sp := fun vs H Q E => vs.length = n ∧ ∃ S ds, Live T S H ∧ RpAll K (hide S H) vs ds ∧ Fin T ca (Rv K S) (fun c d _ H' => E c d H') [] H (g ds) Q
theorem fin_W {α β : Type} {R : Hp → β → α → Prop} {W' : WX} {σ σ' : L2.St} {H : Hp} {r : Res α} {Q : β → Hp → Prop} (f : Fin T ca R W σ H r Q) (h : ∀ c H', Pe T H H' → W (.ref (ca c)) none σ H' → W' (.ref (ca c)) none σ' H') : Fin T ca R W' σ' H r Q := by
  cases r with
  | ok a => exact f
  | exc c => exact fun H' p => h c H' p (f H' p)
  | stuck => exact f
structure FnD (T : Gam) (ca : XC → Addr) (P : Program) (w : World) (K : PySem.W.Frag) (mg : Str → Option Value) (base : Heap) (k : Nat) (x : Str) (n : Nat) (g : List D → Res D) : Prop where
  ex : ∃ (f : Addr) (fd : FuncData) (ps : List Str), ps.length = n ∧ FnOk P w K mg base (L2N.CX P w) k f fd ps (SpD T ca K n g) ∧ mg x = some (.ref f) ∧ PySem.W.keepIn K (.ref f) = true ∧ L2.Binds K fd ps []
theorem FnD.mono {P : Program} {w : World} {K : PySem.W.Frag} {mg : Str → Option Value} {base : Heap} {j k : Nat} {x : Str} {n : Nat} {g : List D → Res D} (F : FnD T ca P w K mg base j x n g) (h : j ≤ k) : FnD T ca P w K mg base k x n g :=
  let ⟨f, fd, ps, h0, h1, h2, h3, h4⟩ := F.ex; ⟨f, fd, ps, h0, h1.mono h, h2, h3, h4⟩
def mCallN (n : Nat) (g : List D → Res D) (a : Env → Res (List D)) : Ev := fun env => (a env).bind fun ds => if ds.length = n then g ds else .stuck
theorem ie_call {k j n : Nat} {x : Str} {p : Pos} {g : List D → Res D} (F : FnD T ca X.prog X.w X.K X.mg X.base k x n g) (hr : Room j X.A) (hk : k ≤ j) (tk : L2N.Takes X W) (h : IA T ca X W (e :: es) ms) (hg : Gl X x := by rfl) (hdb : (x == ("__debug__" : Str)) = false := by decide)
    (he : starEach (e :: es) X.env = (false, eval e X.env) :: starEach es X.env := by rfl) (hpl : (backTo pos (starEach es X.env)).any (·.1) = false := by rfl) : IE T ca X W (.Call (.Name x p) (e :: es) [] pos) (mCallN n g ms) := by
  obtain ⟨f, fd, ps, hn, F', hm, kp, hb⟩ := F.ex
  refine ⟨pe_imp (pe_callS F' (hr.mono hk) hg hm kp hb (fun σ => L2N.passAt tk σ) h.pa hdb he hpl) fun σ H Q ⟨S, env, lv, rel, fin⟩ => ⟨S, env, lv, rel, Fin.bind (R' := Ra X.K S) fin fun ds vs H1 _ p1 r1 f1 => ?_⟩⟩
  split at f1
  · rename_i hl
    exact ⟨r1.length.trans hl, S, ds, lv.le p1, r1, fin_W f1 fun c H' _ z => z⟩
  · exact f1.elim
theorem ie_call0 {k j : Nat} {x : Str} {p : Pos} {g : List D → Res D} (F : FnD T ca X.prog X.w X.K X.mg X.base k x 0 g) (hr : Room j X.A) (hk : k ≤ j) (hx : ∀ E, Passes (L2N.CX X.prog X.w) X E → True) (tk : L2N.Takes X W) (hW : ∃ E : XK, ∀ c d σ H, W c d σ H ↔ E c d H) (hg : Gl X x := by rfl) (hdb : (x == ("__debug__" : Str)) = false := by decide) :
    IE T ca X W (.Call (.Name x p) [] [] pos) (fun _ => g []) := by
  obtain ⟨f, fd, ps, hn, F', hm, kp, hb⟩ := F.ex
  obtain ⟨E, hE⟩ := hW
  refine ⟨pe_imp (pe_call0 (E := E) F' (hr.mono hk) hg hm kp hb .nil (fun pins σ H s e s' I c => tk e s' (L2N.XE.of_call I (fun cls d H' h => (hE cls d σ H').mpr h) c)) hdb) fun σ H Q ⟨S, env, lv, rel, fin⟩ => ?_⟩
  exact ⟨rfl, S, [], lv, .nil, fin_W fin fun c H' _ z => (hE _ _ _ _).mp z⟩
end

/-! ### what is walked -/
/-- all but what S hides stays -/
def Ky (S : List Addr) (H H' : Hp) : Prop := ∀ b o, b ∉ S → H b = some o → isTbl o = false → H' b = some o
structure Walks (K : PySem.W.Frag) (S : List Addr) (J : It) (H1 : Hp) (ds : List D) : Prop where
  go : ∀ i d H' S', Ky S H1 H' → LiveO S' H' → (∀ p ∈ S', p ∈ S ∨ H1 p = none) → ds[i]? = some d → J.go i H' ∧ ∀ x H'', J.yld i H' x H'' → H'' = H' ∧ Rp K (hide S' H') x d
  stop : ∀ H', Ky S H1 H' → J.stop ds.length H'
theorem Pe.ky {T : Gam} {S : List Addr} {H H' : Hp} (p : Pe T H H') : Ky S H H' := fun b o _ h n => p.st b o h n
theorem Ky.rd {S S' : List Addr} {H H' : Hp} (k : Ky S H H') (h : ∀ p ∈ S', p ∈ S ∨ H p = none) : RdLe (hide S H) (hide S' H') := by
  have ns : ∀ {a : Addr} {u : HO}, hide S H a = some u → a ∉ S' ∧ a ∉ S ∧ H a = some u := fun {a u} e => by
    obtain ⟨h1, h2⟩ := hide_some e
    refine ⟨fun z => ?_, h1, h2⟩
    rcases h a z with q | q
    · exact h1 q
    · rw [h2] at q; cases q
  refine ⟨fun a u hu r => ?_, fun a xs hx r => ?_⟩
  · rcases r with r | ⟨ob, r⟩
    · obtain ⟨h1, h2, h3⟩ := ns r
      exact .inl ((hide_in h1).trans (k a u h2 h3 (isTbl_of_rd hu)))
    · obtain ⟨h1, h2, h3⟩ := ns r
      exact .inr ⟨ob, (hide_in h1).trans (k a _ h2 h3 rfl)⟩
  · obtain ⟨h1, h2, h3⟩ := ns r
    exact (hide_in h1).trans (k a _ h2 h3 (isTbl_of_rigid hx))
def tII (T : Gam) (ca : XC → Addr) (K : PySem.W.Frag) (W : WX) (m : Env → Res (List D)) : TI := fun σ H R => ∃ S env, Live T S H ∧ RelE K (hide S H) env σ ∧ Fin T ca (fun H1 J ds => Walks K S J H1 ds) W σ H (m env) R
structure II (T : Gam) (ca : XC → Addr) (X : Cx) (W : WX) (tg iter : Expr) (m : Env → Res (List D)) : Prop where
  pi : PI X tg iter (tII T ca X.K W m)
def lstOf : D → Option (List D)
  | .list ds => some ds
  | _ => none
def tupOf : D → Option (List D)
  | .tuple ds => some ds
  | _ => none
def strOf : D → Option (List D)
  | .str z => some (z.cps.toList.map fun c => .str ⟨#[c]⟩)
  | _ => none
def mItems (f : D → Option (List D)) (a : Ev) : Env → Res (List D) := fun env => (a env).bind fun d => ofO (f d)
def rngOf : List D → Option (List D)
  | [.int j] => if decide (-(2 ^ 62) ≤ j) && decide (j < 2 ^ 62) = true then some ((List.range j.toNat).map fun (i : Nat) => .int (i : Int)) else none
  | [.int i, .int j] => if decide (-(2 ^ 62) ≤ i) && decide (i < 2 ^ 62) && decide (-(2 ^ 62) ≤ j) && decide (j < 2 ^ 62) = true then some ((List.range (j - i).toNat).map fun (k : Nat) => .int (i + (k : Int))) else none
  | _ => none
def mRng (a : Env → Res (List D)) : Env → Res (List D) := fun env => (a env).bind fun ds => ofO (rngOf ds)
section
variable {T : Gam} {ca : XC → Addr} {X : Cx} {W : WX} {tg e a b : Expr} {pos : Pos} {ma mb : Ev} {ms : Env → Res (List D)} {K : PySem.W.Frag} {S : List Addr} {H : Hp}
theorem pi_imp {w w' : TI} {iter : Expr} (h : PI X tg iter w) (i : ∀ σ H R, w' σ H R → w σ H R) : PI X tg iter w' := ⟨fun pins s σ H R I q => h.run pins s σ H R I (i σ H R q)⟩
theorem sqL_un {p : Addr} {xs : List V} {H' : Hp} (k : Ky S H H') (h : SqL K (hide S H) p xs) : SqL K H' p xs := by
  rcases h with (h | ⟨ob, h⟩) | h
  · obtain ⟨h1, h2⟩ := hide_some h
    exact .inl (.inl (k p _ h1 h2 rfl))
  · obtain ⟨h1, h2⟩ := hide_some h
    exact .inl (.inr ⟨ob, k p _ h1 h2 rfl⟩)
  · exact .inr h
/-- an address holds one list -/
theorem walks_list {p : Addr} {xs : List V} {ds : List D} (h : SqL K (hide S H) p xs) (r : RpAll K (hide S H) xs ds) (hx : ∀ (i : Nat) (v : V), xs[i]? = some v → ∀ H' x H'', (Itl K p).yld i H' x H'' → SqL K H' p xs → x = v) : Walks K S (Itl K p) H ds where
  go := fun i d H' S' k lv ns e => by
    obtain ⟨v, ev, rv⟩ := RpAll.get r e
    have h' := sqL_un k h
    refine ⟨⟨xs, v, h', ev⟩, fun x H'' y => ?_⟩
    have ex := hx i v ev H' x H'' y h'
    subst ex
    exact ⟨y.1, rv.le (k.rd ns)⟩
  stop := fun H' k => ⟨xs, sqL_un k h, by rw [r.length]; exact Nat.le_refl _⟩
theorem ii_list (ha : IE T ca X W a ma) : II T ca X W tg a (mItems lstOf ma) :=
  ⟨pi_imp (pi_list ha.pe) fun σ H R ⟨S, env, lv, rel, fin⟩ => ⟨S, env, lv, rel, Fin.bind (R' := Rv X.K S) fin fun d v H1 _ p1 r1 f1 => by
    obtain ⟨z, hz, w⟩ := f1.some
    cases d <;> cases hz
    obtain ⟨p, xs, rfl, h1, rr⟩ := rp_lst r1
    exact ⟨p, rfl, ⟨xs, sqL_hide h1⟩, w _ H1 .refl (walks_list h1 rr fun i v e H' x H'' y q => by
      have z := y.2 xs q
      rw [e] at z
      exact (Option.some.inj z).symm)⟩⟩⟩
theorem ii_tup (ha : IE T ca X W a ma) : II T ca X W tg a (mItems tupOf ma) :=
  ⟨pi_imp (pi_tup ha.pe) fun σ H R ⟨S, env, lv, rel, fin⟩ => ⟨S, env, lv, rel, Fin.bind (R' := Rv X.K S) fin fun d v H1 _ p1 r1 f1 => by
    obtain ⟨z, hz, w⟩ := f1.some
    cases d <;> cases hz
    obtain ⟨p, xs, rfl, h1, rr⟩ := rp_tup r1
    have sq : ∀ H', Ky S H1 H' → SqT X.K H' p xs := fun H' k => let ⟨h2, h3⟩ := hide_some h1; .inl (.inl (k p _ h2 h3 rfl))
    refine ⟨p, rfl, ⟨xs, sq H1 (Pe.ky (T := T) .refl)⟩, w _ H1 .refl ⟨fun i d H' S' k lv ns e => ?_, fun H' k => ⟨xs, sq H' k, by rw [rr.length]; exact Nat.le_refl _⟩⟩⟩
    obtain ⟨v, ev, rv⟩ := RpAll.get rr e
    refine ⟨⟨xs, v, sq H' k, ev⟩, fun x H'' y => ?_⟩
    have ex := y.2 xs (sq H' k)
    rw [ev] at ex
    cases ex
    exact ⟨y.1, rv.le (k.rd ns)⟩⟩⟩
theorem ii_str (ha : IE T ca X W a ma) : II T ca X W tg a (mItems strOf ma) :=
  ⟨pi_imp (pi_str ha.pe) fun σ H R ⟨S, env, lv, rel, fin⟩ => ⟨S, env, lv, rel, Fin.bind (R' := Rv X.K S) fin fun d v H1 _ p1 r1 f1 => by
    obtain ⟨z, hz, w⟩ := f1.some
    cases d with
    | str t =>
      cases hz
      cases rp_str r1
      refine ⟨t, rfl, w _ H1 .refl ⟨fun i d H' S' k lv ns e => ?_, fun H' k => ?_⟩⟩
      · rw [List.getElem?_map] at e
        obtain ⟨c, hc, rfl⟩ := Option.map_eq_some_iff.mp e
        have hc' : t.cps[i]? = some c := by simpa using hc
        refine ⟨(Array.getElem?_eq_some_iff.mp hc').1, fun x H'' y => ?_⟩
        obtain ⟨y1, c', y2, y3⟩ := y
        rw [hc'] at y2
        cases y2
        subst y3
        exact ⟨y1, .str _⟩
      · show t.cps.size ≤ _
        simp
    | _ => cases hz⟩⟩
theorem walks_rng {lo : Int} {n : Nat} : Walks K S (Itr lo n) H ((List.range n).map fun (k : Nat) => .int (lo + (k : Int))) where
  go := fun i d H' S' k lv ns e => by
    rw [List.getElem?_map] at e
    obtain ⟨c, hc, rfl⟩ := Option.map_eq_some_iff.mp e
    obtain ⟨h1, h2⟩ := List.getElem?_eq_some_iff.mp hc
    rw [List.getElem_range] at h2
    subst h2
    rw [List.length_range] at h1
    exact ⟨h1, fun x H'' ⟨y1, y2⟩ => ⟨y1, by rw [y2]; exact .int _⟩⟩
  stop := fun H' k => by
    show n ≤ _
    simp
theorem ii_rng1 {p : Pos} (hm : X.mg "range" = none) (ha : IA T ca X W [a] ms) (hg : Gl X "range" := by rfl) (hs : starEach [a] X.env = [(false, eval a X.env)] := by rfl) (h1 : ∀ env ds, ms env = .ok ds → ds.length = 1) : II T ca X W tg (.Call (.Name "range" p) [a] [] pos) (mRng ms) :=
  ⟨pi_imp (pi_range1 hg hm ha.pa hs) fun σ H R ⟨S, env, lv, rel, fin⟩ => ⟨S, env, lv, rel, Fin.bind (R' := Ra X.K S) fin fun ds vs H1 e p1 r1 f1 => by
    obtain ⟨z, hz, w⟩ := f1.some
    have hl := h1 env ds e
    unfold rngOf at hz
    split at hz
    · split at hz
      · rename_i hc
        simp only [Bool.and_eq_true, decide_eq_true_eq] at hc
        cases hz
        cases r1 with
        | cons h r =>
          cases r
          cases rp_int h
          refine ⟨_, rfl, hc.1, hc.2, w _ H1 .refl ?_⟩
          have z := walks_rng (K := X.K) (S := S) (H := H1) (lo := 0) (n := (‹Int›).toNat)
          simp only [Int.zero_add] at z
          exact z
      · cases hz
    · cases hl
    · cases hz⟩⟩
theorem ii_rng2 {p : Pos} (hm : X.mg "range" = none) (ha : IA T ca X W [a, b] ms) (hg : Gl X "range" := by rfl) (hs : starEach [a, b] X.env = [(false, eval a X.env), (false, eval b X.env)] := by rfl) (hs2 : starEach [b] X.env = [(false, eval b X.env)] := by rfl) (h2 : ∀ env ds, ms env = .ok ds → ds.length = 2) :
    II T ca X W tg (.Call (.Name "range" p) [a, b] [] pos) (mRng ms) :=
  ⟨pi_imp (pi_range2 hg hm ha.pa hs hs2) fun σ H R ⟨S, env, lv, rel, fin⟩ => ⟨S, env, lv, rel, Fin.bind (R' := Ra X.K S) fin fun ds vs H1 e p1 r1 f1 => by
    obtain ⟨z, hz, w⟩ := f1.some
    have hl := h2 env ds e
    unfold rngOf at hz
    split at hz
    · cases hl
    · split at hz
      · rename_i hc
        simp only [Bool.and_eq_true, decide_eq_true_eq] at hc
        cases hz
        cases r1 with
        | cons h r =>
          cases r with
          | cons h' r =>
            cases r
            cases rp_int h
            cases rp_int h'
            exact ⟨_, _, rfl, ⟨hc.1.1.1, hc.1.1.2, hc.1.2, hc.2⟩, w _ H1 .refl walks_rng⟩
      · cases hz
    · cases hz⟩⟩
theorem len_cons (a : Ev) (r : Env → Res (List D)) (n : Nat) (h : ∀ env ds, r env = .ok ds → ds.length = n) : ∀ env ds, mCons a r env = .ok ds → ds.length = n + 1 := fun env ds e => by
  unfold mCons at e
  cases h1 : a env with
  | ok d =>
    rw [h1] at e
    cases h2 : r env with
    | ok es =>
      simp only [bind_ok, h2] at e
      cases e
      exact congrArg (· + 1) (h env es h2)
    | _ => simp only [bind_ok, h2] at e; cases e
  | _ => rw [h1] at e; cases e
theorem len_nil : ∀ env ds, mNil env = .ok ds → ds.length = 0 := fun env ds e => by cases e; rfl
end
/-! ### comprehensions -/
def noExc {α : Type} : Res α → Res α
  | .ok a => .ok a
  | _ => .stuck
def compLoop (j : Nat) (c : Env → Res Bool) (f : Ev) (env : Env) : List D → Res (List D)
  | [] => .ok []
  | d :: r => (noExc (c (env.set j (some d)))).bind fun b => if b = true then (noExc (f (env.set j (some d)))).bind fun y => (compLoop j c f env r).bind fun ys => .ok (y :: ys) else compLoop j c f env r
def mComp (it : Env → Res (List D)) (j : Nat) (c : Env → Res Bool) (f : Ev) : Ev := fun env => (it env).bind fun ds => if big ds.length = true then (compLoop j c f (env.set j none) ds).bind fun ys => .ok (.list ys) else .stuck
def mYes : Env → Res Bool := fun _ => .ok true
structure ITs (T : Gam) (ca : XC → Addr) (X : Cx) (W : WX) (ifs : List Expr) (m : Env → Res Bool) : Prop where
  pts : PTs X ifs (tIT T ca X.K W m)
section
variable {T : Gam} {ca : XC → Addr} {X : Cx} {W : WX} {tg e a b elt iter : Expr} {pos : Pos} {ma mf : Ev} {mi : Env → Res (List D)} {mc : Env → Res Bool}
theorem its_nil : ITs T ca X W [] mYes := ⟨⟨fun pins s σ H Q I ⟨S, env, lv, rel, fin⟩ => pts_nil.run pins s σ H Q I (fin true H .refl rfl)⟩⟩
theorem its_one {c : Expr} {m : Env → Res Bool} (h : IT T ca X W c m) : ITs T ca X W [c] m := ⟨pts_one h.pt⟩
theorem RelE.set {K : PySem.W.Frag} {G : Hp} {env : Env} {σ : L2.St} {j : Nat} {v : V} {d : D} (r : RelE K G env σ) (h : Rp K G v d) : RelE K G (env.set j (some d)) (σ.set j (some v)) := by
  refine ⟨by rw [List.length_set, List.length_set]; exact r.len, fun i d' e => ?_⟩
  by_cases hj : j = i
  · subst hj
    by_cases hl : j < env.length
    · rw [List.getElem?_set_self hl] at e
      cases e
      exact ⟨v, List.getElem?_set_self (by rw [← r.len]; exact hl), h⟩
    · rw [List.getElem?_eq_none (by rw [List.length_set]; omega)] at e
      cases e
  · rw [List.getElem?_set_ne hj] at e
    rw [List.getElem?_set_ne hj]
    exact r.at_ i d' e
theorem RelE.wipe {K : PySem.W.Frag} {G : Hp} {env : Env} {σ : L2.St} {j : Nat} (r : RelE K G env σ) : RelE K G (env.set j none) (σ.set j none) := by
  refine ⟨by rw [List.length_set, List.length_set]; exact r.len, fun i d' e => ?_⟩
  by_cases hj : j = i
  · subst hj
    by_cases hl : j < env.length
    · rw [List.getElem?_set_self hl] at e
      cases e
    · rw [List.getElem?_eq_none (by rw [List.length_set]; omega)] at e
      cases e
  · rw [List.getElem?_set_ne hj] at e
    rw [List.getElem?_set_ne hj]
    exact r.at_ i d' e
abbrev W0 : WX := fun _ _ _ _ => False
theorem fin_no {α β : Type} {R : Hp → β → α → Prop} {σ σ' : L2.St} {H : Hp} {r : Res α} {Q : β → Hp → Prop} (f : Fin T ca R W σ H (noExc r) Q) : Fin T ca R W0 σ' H r Q := by
  cases r with
  | ok a => exact f
  | exc c => exact f.elim
  | stuck => exact f
/-- the comprehension's loop, from the turn i on -/
theorem comp_run {S : List Addr} {env : Env} {σ : L2.St} {j : Nat} {H0 H1 : Hp} {J : It} {ds : List D} {Q : V → Hp → Prop} {p : Addr} (lv : Live T S H1) (rel : RelE X.K (hide S H1) (env.set j none) (σ.set j none)) (w : Walks X.K S J H1 ds) (hb : big ds.length = true) (hp : H1 p = none)
    (fin : Fin T ca (Rv X.K S) W σ H1 ((compLoop j mc mf (env.set j none) ds).bind fun ys => .ok (.list ys)) Q) :
    ∃ V : Nat → Nat → Hp → Prop, (∃ m, V 0 m (upd H1 p (.lst []))) ∧ ∀ i m H, V i m H → (J.stop i H ∧ Q (.ref p) H) ∨ (J.go i H ∧ ∃ Nx : Hp → Prop, (∀ H', Nx H' → ∃ m', m' < m ∧ V (i + 1) m' H') ∧ ∀ x H', J.yld i H x H' → gName j x (L2.wipe σ [j]) H' fun σ2 H2 => L2.wipe σ2 [j] = L2.wipe σ [j] ∧ tIT T ca X.K W0 mc σ2 H2 fun b H3 =>
      if b = true then tI T ca X.K W0 mf σ2 H3 fun y H4 => ∃ acc, H4 p = some (.lst acc) ∧ acc.length < sizeLine ∧ Nx (upd H4 p (.lst (acc ++ [y]))) else Nx H3) := by
  -- what holds ahead of turn i: the list so far holds ys; from here the loop's answer, put behind ys, is what is wanted
  refine ⟨fun i m H => m = ds.length - i ∧ i ≤ ds.length ∧ ∃ (vs : List V) (ys : List D), H p = some (.lst vs) ∧ RpAll X.K (hide (p :: S) H) vs ys ∧ ys.length ≤ i ∧ Pe T H1 H ∧ Fin T ca (Rv X.K S) W σ H1 ((compLoop j mc mf (env.set j none) (ds.drop i)).bind fun zs => .ok (.list (ys ++ zs))) Q,
    ⟨ds.length, rfl, Nat.zero_le _, [], [], upd_same, .nil, Nat.le_refl _, .new hp, by simpa using fin⟩, ?_⟩
  rintro i m H ⟨rfl, hi, vs, ys, hH, hr, hl, pe, f⟩
  have ky : Ky S H1 H := pe.ky
  have lvH : Live T S H := lv.le pe
  have pS : p ∉ S := lv.no hp
  have lvp : Live T (p :: S) H := ⟨fun a ha => by
    rcases List.mem_cons.mp ha with rfl | ha
    · exact ⟨_, hH, rfl⟩
    · exact lvH.own a ha, lvH.tb⟩
  by_cases hlt : i < ds.length
  · refine .inr ?_
    have ed : ds[i]? = some ds[i] := List.getElem?_eq_getElem hlt
    have edr : ds.drop i = ds[i] :: ds.drop (i + 1) := (List.drop_eq_getElem_cons hlt)
    obtain ⟨g, yl⟩ := w.go i _ H (p :: S) ky lvp.own (fun q hq => (List.mem_cons.mp hq).elim (fun z => .inr (by rw [z]; exact hp)) .inl) ed
    rw [edr] at f
    refine ⟨g, fun H' => i + 1 ≤ ds.length ∧ ∃ (vs : List V) (ys : List D), H' p = some (.lst vs) ∧ RpAll X.K (hide (p :: S) H') vs ys ∧ ys.length ≤ i + 1 ∧ Pe T H1 H' ∧ Fin T ca (Rv X.K S) W σ H1 ((compLoop j mc mf (env.set j none) (ds.drop (i + 1))).bind fun zs => .ok (.list (ys ++ zs))) Q,
      fun H' h => ⟨ds.length - (i + 1), by omega, rfl, h⟩, fun x H' y => ?_⟩
    obtain ⟨rfl, rx⟩ := yl x H' y
    have relH : RelE X.K (hide (p :: S) H') (env.set j none) (σ.set j none) := ⟨rel.len, fun i d e => let ⟨v, h1, h2⟩ := rel.at_ i d e; ⟨v, h1, h2.le (ky.rd fun q hq => (List.mem_cons.mp hq).elim (fun z => .inr (by rw [z]; exact hp)) .inl)⟩⟩
    have rel2 := relH.set (j := j) rx
    rw [List.set_set] at rel2
    have e2 : (L2.wipe σ [j]).set j (some x) = (σ.set j none).set j (some x) := rfl
    have ew : L2.wipe ((L2.wipe σ [j]).set j (some x)) [j] = L2.wipe σ [j] := by
      show (((σ.set j none).set j (some x)).set j none) = σ.set j none
      rw [List.set_set, List.set_set]
    have rel3 : RelE X.K (hide (p :: S) H') ((env.set j none).set j (some ds[i])) ((L2.wipe σ [j]).set j (some x)) := by
      rw [e2, List.set_set, List.set_set]
      rw [List.set_set] at rel2
      exact rel2
    refine ⟨ew, p :: S, (env.set j none).set j (some ds[i]), lvp, rel3, ?_⟩
    unfold compLoop at f
    cases hc : mc ((env.set j none).set j (some ds[i])) with
    | ok b =>
      rw [hc] at f
      intro b' H3 p3 eb
      cases (show b' = b from eb)
      cases b with
      | false =>
        rw [if_neg Bool.false_ne_true]
        exact ⟨hlt, vs, ys, p3.st _ _ hH rfl, hr.le p3.rd, by omega, pe.trans p3, f⟩
      | true =>
        rw [if_pos rfl]
        refine ⟨p :: S, (env.set j none).set j (some ds[i]), lvp.le p3, rel3.le p3, ?_⟩
        cases hf : mf ((env.set j none).set j (some ds[i])) with
        | ok z =>
          intro v H4 p4 rv
          have q4 := p3.trans p4
          refine ⟨vs, q4.st _ _ hH rfl, ?_, hlt, vs ++ [v], ys ++ [z], upd_same, ?_, by rw [List.length_append]; simpa using hl, ?_, ?_⟩
          · have := hr.length
            have := of_decide_eq_true hb
            have : (1000000 : Nat) < sizeLine := by decide
            omega
          · have le : RdLe (hide (p :: S) H4) (hide (p :: S) (upd H4 p (.lst (vs ++ [v])))) := by
              have nq : ∀ {a : Addr} {u : HO}, hide (p :: S) H4 a = some u → hide (p :: S) (upd H4 p (.lst (vs ++ [v]))) a = some u := fun {a u} h => by
                obtain ⟨h1, h2⟩ := hide_some h
                rw [hide_in h1, upd_ne (fun z => h1 (by rw [z]; exact List.mem_cons_self))]
                exact h2
              exact ⟨fun a u _ r => r.imp nq fun ⟨ob, r⟩ => ⟨ob, nq r⟩, fun a xs _ r => nq r⟩
            exact ((hr.le q4.rd).app (.cons rv .nil)).le le
          · refine ⟨fun c o h n => ?_, fun c h => ?_, fun t => ?_⟩
            · rw [upd_ne (ne_of_none h hp)]
              exact (pe.trans q4).st c o h n
            · by_cases hcp : c = p
              · rw [hcp]; exact hp
              · rw [upd_ne hcp] at h
                exact (pe.trans q4).fr c h
            · exact TabC.upd ((pe.trans q4).tb t) (q4.st _ _ hH rfl) rfl rfl
          · rw [hf] at f
            have f : Fin T ca (Rv X.K S) W σ H1 ((((compLoop j mc mf (env.set j none) (ds.drop (i + 1))).bind fun ys => .ok (z :: ys))).bind fun zs => .ok (.list (ys ++ zs))) Q := f
            have e5 : ((compLoop j mc mf (env.set j none) (ds.drop (i + 1))).bind fun ys => (.ok (z :: ys) : Res (List D))).bind (fun zs => (.ok (.list (ys ++ zs)) : Res D)) = (compLoop j mc mf (env.set j none) (ds.drop (i + 1))).bind fun zs => .ok (.list ((ys ++ [z]) ++ zs)) := by
              cases compLoop j mc mf (env.set j none) (ds.drop (i + 1)) with
              | ok zs => simp
              | _ => rfl
            rw [e5] at f
            exact f
        | exc c => rw [hf] at f; exact f.elim
        | stuck => rw [hf] at f; exact f.elim
    | exc c => rw [hc] at f; exact f.elim
    | stuck => rw [hc] at f; exact f.elim
  · have e : i = ds.length := by omega
    subst e
    refine .inl ⟨w.stop H ky, ?_⟩
    rw [List.drop_length] at f
    have f : Fin T ca (Rv X.K S) W σ H1 (.ok (.list (ys ++ []))) Q := f
    rw [List.append_nil] at f
    refine f (.ref p) H pe (.lst (.inl (.inl ((hide_in pS).trans hH))) (hr.le (hide_le fun a ha => List.mem_cons_of_mem _ ha)))
theorem ie_comp {j : Nat} {x : Str} {px : Pos} {scope : Scope} {ifs : List Expr} (hN : X.N.Nodup) (hi : II T ca X W (.Name x px) iter mi) (ok : blkC X.N X.env.scope scope [(x, j)] = true)
    (hg : ∀ (s : Shared) (H : Hp) (C : Addr) (cl : List (Str × Addr)) (fp : List Addr), PG (X.blk s H scope (compEnvC scope cl C X.env) fp) (.Name x px) (gName j))
    (ht : ∀ (s : Shared) (H : Hp) (C : Addr) (cl : List (Str × Addr)) (fp : List Addr), ITs T ca (X.blk s H scope (compEnvC scope cl C X.env) fp) W0 ifs mc)
    (he : ∀ (s : Shared) (H : Hp) (C : Addr) (cl : List (Str × Addr)) (fp : List Addr), IE T ca (X.blk s H scope (compEnvC scope cl C X.env) fp) W0 elt mf) (hc : X.calm = true := by rfl) (hs : ∀ x, foldedSetIterable iter X.env x = pure x := by intro _; rfl) :
    IE T ca X W (.ListComp elt [⟨.Name x px, iter, ifs, 0⟩] scope pos) (mComp mi j mc mf) :=
  ⟨pe_imp (pe_lc (own := [(x, j)]) hc hN hi.pi (blkOk_by ok) hg (fun s H C cl fp => (ht s H C cl fp).pts) (fun s H C cl fp => (he s H C cl fp).pe) hs) fun σ H Q ⟨S, env, lv, rel, fin⟩ => ⟨S, env, lv, rel, Fin.bind (R' := fun H1 J ds => Walks X.K S J H1 ds) fin fun ds J H1 _ p1 w f1 => by
    split at f1
    · rename_i hb
      exact fun p hp => comp_run (T := T) (ca := ca) (X := X) (W := W) (H0 := H) (lv.le p1) (rel.le p1).wipe w hb hp f1
    · exact f1.elim⟩⟩
end
end IL
namespace IL
open PySem PySem.Spec PyProof.Rows L2
/-! ### statements: a name holds a datum, or it owns a list or a dict that it alone may change -/
inductive Ent where
  | val (d : D) | own (d : D)
abbrev SEnv := List (Option Ent)
inductive Out where
  | nx (e : SEnv) | ret (d : D) | brk (e : SEnv) | ct (e : SEnv) | exc (c : XC) | stuck
abbrev Sv := SEnv → Out
/-- what is seen of the names: what is owned is hidden; or seen -/
def hid (env : SEnv) : Env := env.map fun e => match e with
  | some (.val d) => some d
  | _ => none
/-- a dict with texts as keys that a name builds up bears a mark; seen, it does not -/
def mk0 : D × D := (.none, .none)
def strip : D → D
  | .dict ((.none, .none) :: es) => .dict es
  | d => d
def vis (env : SEnv) : Env := env.map fun e => match e with
  | some (.val d) => some d
  | some (.own d) => some (strip d)
  | none => none
/-- the objects that an instance of Looks holds for itself -/
def parts (H : Hp) (p : Addr) : List Addr := match H p with
  | some (.ins _ _ [_, (_, .ref t), (_, .ref k), (_, .ref d)]) => [t, k, d]
  | _ => []
inductive OwnAt (K : PySem.W.Frag) (G H : Hp) (p : Addr) : D → Prop where
  | lst {vs : List V} {ds : List D} (h : H p = some (.lst vs)) (r : RpAll K G vs ds) : OwnAt K G H p (.list ds)
  | dT {kvs : List (List Key × V)} {es : List (D × D)} (h : H p = some (.dT kvs)) (r : RpT K G kvs es) : OwnAt K G H p (.dict es)
  | dK {kvs : List (Key × V)} {es : List (D × D)} (h : H p = some (.dK kvs)) (r : RpK K G kvs es) : OwnAt K G H p (.dict (mk0 :: es))
  | ob {t kn dn : Addr} {kvs : List (Key × V)} {es : List (D × D)} {fresh : Bool} (h : ObAt K H p t kn dn) (ht : H t = some (.dK kvs)) (r : RpK K G kvs es) (hf : fresh = true → H kn = some (.dK []) ∧ H dn = some (.lst [])) : OwnAt K G H p (obD es fresh)
structure RelS (K : PySem.W.Frag) (T : Gam) (H0 : Hp) (S0 os : List Addr) (env : SEnv) (σ : L2.St) (H : Hp) : Prop where
  pe : Pe T H0 H
  lv0 : Live T S0 H0
  lv : Live T (os ++ S0) H
  len : env.length = σ.length
  val : ∀ (i : Nat) (d : D), env[i]? = some (some (.val d)) → ∃ v : V, σ[i]? = some (some v) ∧ Rp K (hide (os ++ S0) H) v d
  own : ∀ (i : Nat) (d : D), env[i]? = some (some (.own d)) → ∃ p : Addr, σ[i]? = some (some (.ref p)) ∧ p ∈ os ∧ OwnAt K (hide (os ++ S0) H) H p d
  fr : ∀ p ∈ os, H0 p = none
  po : ∀ (j : Nat) (e : D) (q : Addr), env[j]? = some (some (.own e)) → σ[j]? = some (some (.ref q)) → ∀ b ∈ parts H q, b ∈ os ∧ ∀ (i : Nat) (d : D), env[i]? = some (some (.own d)) → σ[i]? = some (some (.ref b)) → False
  ap : ∀ (i j : Nat) (d e : D) (p : Addr), env[i]? = some (some (.own d)) → env[j]? = some (some (.own e)) → σ[i]? = some (some (.ref p)) → σ[j]? = some (some (.ref p)) → i = j
def EndS (K : PySem.W.Frag) (T : Gam) (ca : XC → Addr) (W : WX) (D : Ends) (H0 : Hp) (S0 : List Addr) (r : Out) : Prop :=
  match r with
  | .nx e => ∀ os σ H, RelS K T H0 S0 os e σ H → D.nx σ H
  | .brk e => ∀ os σ H, RelS K T H0 S0 os e σ H → D.bk σ H
  | .ct e => ∀ os σ H, RelS K T H0 S0 os e σ H → D.ct σ H
  | .ret d => ∀ v H, Pe T H0 H → Rp K (hide S0 H) v d → D.rt v H
  | .exc c => ∀ σ H, Pe T H0 H → W (.ref (ca c)) none σ H
  | .stuck => False
def tS (K : PySem.W.Frag) (T : Gam) (ca : XC → Addr) (W : WX) (m : Sv) : TS := fun D σ H => ∃ H0 S0 os env, RelS K T H0 S0 os env σ H ∧ EndS K T ca W D H0 S0 (m env)
structure IS (T : Gam) (ca : XC → Addr) (X : Cx) (W : WX) (st : Stmt) (m : Sv) : Prop where
  ps : PS X st (tS X.K T ca W m)
structure ISs (T : Gam) (ca : XC → Addr) (X : Cx) (W : WX) (st : List Stmt) (m : Sv) : Prop where
  ps : PSs X st (tS X.K T ca W m)
section
variable {K : PySem.W.Frag} {T : Gam} {ca : XC → Addr} {W : WX} {D : Ends} {H0 H H1 : Hp} {S0 os : List Addr} {env : SEnv} {σ : L2.St}
theorem ObAt.parts {p t kn dn : Addr} (h : ObAt K H p t kn dn) : parts H p = [t, kn, dn] := by
  obtain ⟨C, dx, n, _, e⟩ := h.ex
  unfold IL.parts
  rw [e]
theorem OwnAt.le {G G' : Hp} {p : Addr} {d : IL.D} (o : OwnAt K G H p d) (l : RdLe G G') (h : ∀ b u, b = p ∨ b ∈ parts H p → H b = some u → isTbl u = false → H1 b = some u) : OwnAt K G' H1 p d := by
  cases o with
  | lst e r => exact .lst (h p _ (.inl rfl) e rfl) (r.le l)
  | dT e r => exact .dT (h p _ (.inl rfl) e rfl) (r.le l)
  | dK e r => exact .dK (h p _ (.inl rfl) e rfl) (r.le l)
  | @ob t kn dn _ _ _ ho ht r hf =>
    have hp := ho.parts
    obtain ⟨C, dx, n, e1, e2⟩ := ho.ex
    exact .ob ⟨C, dx, n, e1, h p _ (.inl rfl) e2 rfl⟩ (h t _ (.inr (by rw [hp]; simp)) ht rfl) (r.le l) fun z => ⟨h kn _ (.inr (by rw [hp]; simp)) (hf z).1 rfl, h dn _ (.inr (by rw [hp]; simp)) (hf z).2 rfl⟩
theorem OwnAt.at_ {G : Hp} {p : Addr} {d : IL.D} (o : OwnAt K G H p d) : ∃ u, H p = some u ∧ isTbl u = false := by
  cases o with
  | lst e r => exact ⟨_, e, rfl⟩
  | dT e r => exact ⟨_, e, rfl⟩
  | dK e r => exact ⟨_, e, rfl⟩
  | ob ho _ _ _ => obtain ⟨C, dx, n, e1, e2⟩ := ho.ex; exact ⟨_, e2, rfl⟩
theorem parts_eq {H H1 : Hp} {p : Addr} {u : HO} (h : H p = some u) (h1 : H1 p = some u) : parts H1 p = parts H p := by
  unfold parts
  rw [h, h1]
theorem parts_no {H : Hp} {p : Addr} {o : HO} (h : H p = some o) (n : rigid o = false) : parts H p = [] := by
  unfold parts
  rw [h]
  cases o <;> first | rfl | cases n
theorem RelS.le (r : RelS K T H0 S0 os env σ H) (p : Pe T H H1) : RelS K T H0 S0 os env σ H1 where
  pe := r.pe.trans p
  lv0 := r.lv0
  lv := r.lv.le p
  len := r.len
  val := fun i d e => let ⟨v, h1, h2⟩ := r.val i d e; ⟨v, h1, h2.le p.rd⟩
  own := fun i d e => let ⟨q, h1, h2, h3⟩ := r.own i d e; ⟨q, h1, h2, h3.le p.rd fun b u _ e n => p.st b u e n⟩
  fr := r.fr
  po := fun j e q e1 e2 b hb => by
    obtain ⟨q', h1, _, h3⟩ := r.own j e e1
    rw [e2] at h1
    cases h1
    obtain ⟨u, hu, hn⟩ := h3.at_
    rw [parts_eq hu (p.st q u hu hn)] at hb
    exact r.po j e q e1 e2 b hb
  ap := r.ap
theorem get_map {α β : Type} {f : α → β} {l : List α} {i : Nat} {y : β} (h : (l.map f)[i]? = some y) : ∃ x, l[i]? = some x ∧ f x = y := by
  rw [List.getElem?_map] at h
  exact Option.map_eq_some_iff.mp h
theorem RelS.hidE (r : RelS K T H0 S0 os env σ H) : RelE K (hide (os ++ S0) H) (hid env) σ := by
  refine ⟨by unfold hid; rw [List.length_map]; exact r.len, fun i d e => ?_⟩
  obtain ⟨x, h1, h2⟩ := get_map e
  match x, h2 with
  | some (.val _), h2 => cases h2; exact r.val i d h1
theorem RelS.notS (r : RelS K T H0 S0 os env σ H) {p : Addr} (h : p ∈ os) : p ∉ S0 := r.lv0.no (r.fr p h)
theorem RelS.liveS (r : RelS K T H0 S0 os env σ H) : Live T S0 H := r.lv0.le r.pe
theorem OwnAt.rp {p : Addr} {d : IL.D} {S : List Addr} {G : Hp} (o : OwnAt K G H p d) (h : p ∉ S) (hpt : ∀ b ∈ parts H p, b ∉ S) (l : RdLe G (hide S H)) : Rp K (hide S H) (.ref p) (strip d) := by
  cases o with
  | lst e r => exact .lst (.inl (.inl ((hide_in h).trans e))) (r.le l)
  | dT e r =>
    cases r with
    | nil => exact .dT (.inl ((hide_in h).trans e)) .nil
    | cons h' r => exact .dT (.inl ((hide_in h).trans e)) ((RpT.cons h' r).le l)
  | dK e r => exact .dK (.inl ((hide_in h).trans e)) (r.le l)
  | @ob t kn dn kvs es fresh ho ht r hf =>
    have hp := ho.parts
    obtain ⟨C, dx, n, e1, e2⟩ := ho.ex
    have i : ∀ b ∈ [t, kn, dn], b ∉ S := fun b hb => hpt b (by rw [hp]; exact hb)
    exact .ob ⟨C, dx, n, e1, (hide_in h).trans e2⟩ (.inl ((hide_in (i t (by simp))).trans ht)) (r.le l) fun z => ⟨.inl ((hide_in (i kn (by simp))).trans (hf z).1), .inl ((hide_in (i dn (by simp))).trans (hf z).2)⟩
theorem RelS.visE (r : RelS K T H0 S0 os env σ H) : RelE K (hide S0 H) (vis env) σ := by
  refine ⟨by unfold vis; rw [List.length_map]; exact r.len, fun i d e => ?_⟩
  have l : RdLe (hide (os ++ S0) H) (hide S0 H) := hide_le fun a h => List.mem_append_right _ h
  obtain ⟨x, h1, h2⟩ := get_map e
  match x, h2 with
  | some (.val _), h2 =>
    cases h2
    obtain ⟨v, h3, h4⟩ := r.val i d h1
    exact ⟨v, h3, h4.le l⟩
  | some (.own d'), h2 =>
    cases h2
    obtain ⟨p, h3, h4, h5⟩ := r.own i d' h1
    exact ⟨_, h3, h5.rp (r.notS h4) (fun b hb => r.notS (r.po i d' p h1 h3 b hb).1) l⟩
/-- a name gets a datum -/
theorem RelS.set (r : RelS K T H0 S0 os env σ H) {v : V} {d : IL.D} (h : Rp K (hide (os ++ S0) H) v d) (i : Nat) : RelS K T H0 S0 os (env.set i (some (.val d))) (σ.set i (some v)) H := by
  have at_ : ∀ {j : Nat} {x : Ent}, (env.set i (some (.val d)))[j]? = some (some x) → (j = i ∧ i < env.length ∧ x = .val d) ∨ (j ≠ i ∧ env[j]? = some (some x)) := fun {j x} e => by
    by_cases hj : i = j
    · subst hj
      by_cases hl : i < env.length
      · rw [List.getElem?_set_self hl] at e
        cases e
        exact .inl ⟨rfl, hl, rfl⟩
      · rw [List.getElem?_eq_none (by rw [List.length_set]; omega)] at e
        cases e
    · rw [List.getElem?_set_ne hj] at e
      exact .inr ⟨fun z => hj z.symm, e⟩
  refine ⟨r.pe, r.lv0, r.lv, by rw [List.length_set, List.length_set]; exact r.len, fun j d' e => ?_, fun j d' e => ?_, r.fr, fun j e q e1 e2 b hb => ?_, fun j k d1 d2 p e1 e2 e3 e4 => ?_⟩
  · rcases at_ e with ⟨rfl, hl, q⟩ | ⟨hj, e⟩
    · cases q
      exact ⟨v, List.getElem?_set_self (by rw [← r.len]; exact hl), h⟩
    · obtain ⟨w, h1, h2⟩ := r.val j d' e
      exact ⟨w, (List.getElem?_set_ne (fun z => hj z.symm)).trans h1, h2⟩
  · rcases at_ e with ⟨_, _, q⟩ | ⟨hj, e⟩
    · cases q
    · obtain ⟨w, h1, h2⟩ := r.own j d' e
      exact ⟨w, (List.getElem?_set_ne (fun z => hj z.symm)).trans h1, h2⟩
  · rcases at_ e1 with ⟨_, _, z⟩ | ⟨hj, e1⟩
    · cases z
    rw [List.getElem?_set_ne (fun z => hj z.symm)] at e2
    obtain ⟨g1, g2⟩ := r.po j e q e1 e2 b hb
    refine ⟨g1, fun k d2 k1 k2 => ?_⟩
    rcases at_ k1 with ⟨_, _, z⟩ | ⟨hk, k1⟩
    · cases z
    rw [List.getElem?_set_ne (fun z => hk z.symm)] at k2
    exact g2 k d2 k1 k2
  · rcases at_ e1 with ⟨_, _, q⟩ | ⟨hj, e1⟩
    · cases q
    rcases at_ e2 with ⟨_, _, q⟩ | ⟨hk, e2⟩
    · cases q
    rw [List.getElem?_set_ne (fun z => hj z.symm)] at e3
    rw [List.getElem?_set_ne (fun z => hk z.symm)] at e4
    exact r.ap j k d1 d2 p e1 e2 e3 e4
/-- a name gets a new object of its own -/
theorem RelS.newOwn (r : RelS K T H0 S0 os env σ H) {p : Addr} {o : HO} {d : IL.D} (hp : H p = none) (ho : isOwn o = true) (h : OwnAt K (hide (os ++ S0) H) (upd H p o) p d) (i : Nat) (no : rigid o = false := by rfl) : RelS K T H0 S0 (p :: os) (env.set i (some (.own d))) (σ.set i (some (.ref p))) (upd H p o) := by
  have pn : Pe T H (upd H p o) := .new hp (isTbl_of_own ho)
  have l : RdLe (hide (os ++ S0) H) (hide (p :: os ++ S0) (upd H p o)) := by
    have q : ∀ {a : Addr} {u : HO}, hide (os ++ S0) H a = some u → hide (p :: os ++ S0) (upd H p o) a = some u := fun {a u} e => by
      obtain ⟨h1, h2⟩ := hide_some e
      have ne : a ≠ p := ne_of_none h2 hp
      rw [hide_in (by intro z; rcases List.mem_cons.mp z with z | z; exact ne z; exact h1 z), upd_ne ne]
      exact h2
    exact ⟨fun a u _ r => r.imp q fun ⟨ob, r⟩ => ⟨ob, q r⟩, fun a xs _ r => q r⟩
  have at_ : ∀ {j : Nat} {x : Ent}, (env.set i (some (.own d)))[j]? = some (some x) → (j = i ∧ i < env.length ∧ x = .own d) ∨ (j ≠ i ∧ env[j]? = some (some x)) := fun {j x} e => by
    by_cases hj : i = j
    · subst hj
      by_cases hl : i < env.length
      · rw [List.getElem?_set_self hl] at e
        cases e
        exact .inl ⟨rfl, hl, rfl⟩
      · rw [List.getElem?_eq_none (by rw [List.length_set]; omega)] at e
        cases e
    · rw [List.getElem?_set_ne hj] at e
      exact .inr ⟨fun z => hj z.symm, e⟩
  have nos : ∀ q ∈ os, q ≠ p := fun q hq => by
    obtain ⟨u, e, _⟩ := r.lv.own q (List.mem_append_left _ hq)
    exact ne_of_none e hp
  refine ⟨r.pe.trans pn, r.lv0, ⟨fun a ha => ?_, pn.tb r.lv.tb⟩, by rw [List.length_set, List.length_set]; exact r.len, fun j d' e => ?_, fun j d' e => ?_, fun q hq => ?_, fun j e q e1 e2 b hb => ?_, fun j k d1 d2 q e1 e2 e3 e4 => ?_⟩
  · rcases List.mem_cons.mp ha with rfl | ha
    · exact ⟨o, upd_same, ho⟩
    · exact (r.lv.le pn).own a ha
  · rcases at_ e with ⟨_, _, q⟩ | ⟨hj, e⟩
    · cases q
    · obtain ⟨w, h1, h2⟩ := r.val j d' e
      exact ⟨w, (List.getElem?_set_ne (fun z => hj z.symm)).trans h1, h2.le l⟩
  · rcases at_ e with ⟨rfl, hl, q⟩ | ⟨hj, e⟩
    · cases q
      exact ⟨p, List.getElem?_set_self (by rw [← r.len]; exact hl), List.mem_cons_self, h.le l fun _ u _ e _ => e⟩
    · obtain ⟨w, h1, h2, h3⟩ := r.own j d' e
      exact ⟨w, (List.getElem?_set_ne (fun z => hj z.symm)).trans h1, List.mem_cons_of_mem _ h2, h3.le l fun b u _ e _ => by rw [upd_ne (ne_of_none e hp)]; exact e⟩
  · rcases List.mem_cons.mp hq with rfl | hq
    · exact r.pe.fr _ hp
    · exact r.fr q hq
  · rcases at_ e1 with ⟨hj, hl1, q1⟩ | ⟨hj, e1'⟩
    · rw [hj, List.getElem?_set_self (by rw [← r.len]; exact hl1)] at e2
      cases e2
      rw [parts_no upd_same no] at hb
      cases hb
    · rw [List.getElem?_set_ne (fun z => hj z.symm)] at e2
      obtain ⟨w, h1, h2, h3⟩ := r.own j e e1'
      rw [h1] at e2
      cases e2
      obtain ⟨u, hu, _⟩ := h3.at_
      rw [parts_eq hu ((upd_ne (nos _ h2)).trans hu)] at hb
      obtain ⟨g1, g2⟩ := r.po j e _ e1' h1 b hb
      refine ⟨List.mem_cons_of_mem _ g1, fun k d2 k1 k2 => ?_⟩
      rcases at_ k1 with ⟨hk, hl2, _⟩ | ⟨hk, k1⟩
      · rw [hk, List.getElem?_set_self (by rw [← r.len]; exact hl2)] at k2
        cases k2
        exact nos _ g1 rfl
      · rw [List.getElem?_set_ne (fun z => hk z.symm)] at k2
        exact g2 k d2 k1 k2
  · rcases at_ e1 with ⟨hj, hl1, q1⟩ | ⟨hj, e1'⟩
    · rcases at_ e2 with ⟨hk, _, q2⟩ | ⟨hk, e2'⟩
      · rw [hj, hk]
      · rw [hj, List.getElem?_set_self (by rw [← r.len]; exact hl1)] at e3
        cases e3
        rw [List.getElem?_set_ne (fun z => hk z.symm)] at e4
        obtain ⟨w, h1, h2, _⟩ := r.own k d2 e2'
        rw [h1] at e4
        cases e4
        exact absurd rfl (nos _ h2)
    · rw [List.getElem?_set_ne (fun z => hj z.symm)] at e3
      rcases at_ e2 with ⟨hk, hl2, q2⟩ | ⟨hk, e2'⟩
      · rw [hk, List.getElem?_set_self (by rw [← r.len]; exact hl2)] at e4
        cases e4
        obtain ⟨w, h1, h2, _⟩ := r.own j d1 e1'
        rw [h1] at e3
        cases e3
        exact absurd rfl (nos _ h2)
      · rw [List.getElem?_set_ne (fun z => hk z.symm)] at e4
        exact r.ap j k d1 d2 q e1' e2' e3 e4
/-- an owned object is changed -/
theorem RelS.putOwn (r : RelS K T H0 S0 os env σ H) {p : Addr} {o : HO} {d d' : IL.D} {i : Nat} (he : env[i]? = some (some (.own d))) (hσ : σ[i]? = some (some (.ref p))) (hp : p ∈ os) (ho : isOwn o = true) (h : OwnAt K (hide (os ++ S0) H) (upd H p o) p d') (no : rigid o = false := by rfl) : RelS K T H0 S0 os (env.set i (some (.own d'))) σ (upd H p o) := by
  obtain ⟨u0, hu0, hu1⟩ := r.lv.own p (List.mem_append_left _ hp)
  have tu : TabC T (upd H p o) := TabC.upd r.lv.tb hu0 (isTbl_of_own hu1) (fix_of_own hu1)
  have hid_eq : hide (os ++ S0) (upd H p o) = hide (os ++ S0) H := by
    funext a
    unfold hide
    split
    · rfl
    · exact upd_ne fun z => (by assumption : ¬ a ∈ os ++ S0) (by rw [z]; exact List.mem_append_left _ hp)
  have hl : i < env.length := (List.getElem?_eq_some_iff.mp he).1
  have at_ : ∀ {j : Nat} {x : Ent}, (env.set i (some (.own d')))[j]? = some (some x) → (j = i ∧ x = .own d') ∨ (j ≠ i ∧ env[j]? = some (some x)) := fun {j x} e => by
    by_cases hj : i = j
    · subst hj
      rw [List.getElem?_set_self hl] at e
      cases e
      exact .inl ⟨rfl, rfl⟩
    · rw [List.getElem?_set_ne hj] at e
      exact .inr ⟨fun z => hj z.symm, e⟩
  have own' : ∀ {j : Nat} {e : IL.D}, (env.set i (some (.own d')))[j]? = some (some (.own e)) → ∃ e', env[j]? = some (some (.own e')) := fun {j e} q => by
    rcases at_ q with ⟨rfl, _⟩ | ⟨_, q⟩
    · exact ⟨d, he⟩
    · exact ⟨e, q⟩
  refine ⟨⟨fun b u e n => ?_, fun b e => ?_, fun _ => tu⟩, r.lv0, ⟨fun a ha => ?_, tu⟩, by rw [List.length_set]; exact r.len, fun j e q => ?_, fun j e q => ?_, r.fr, fun j e q e1 e2 b hb => ?_, fun j k d1 d2 q e1 e2 e3 e4 => ?_⟩
  · rw [upd_ne (ne_of_none e (r.fr p hp))]
    exact r.pe.st b u e n
  · by_cases hb : b = p
    · rw [hb]; exact r.fr p hp
    · rw [upd_ne hb] at e
      exact r.pe.fr b e
  · by_cases hb : a = p
    · rw [hb]; exact ⟨o, upd_same, ho⟩
    · rw [upd_ne hb]; exact r.lv.own a ha
  · rcases at_ q with ⟨_, q⟩ | ⟨_, q⟩
    · cases q
    · rw [hid_eq]; exact r.val j e q
  · rw [hid_eq]
    rcases at_ q with ⟨hj, q'⟩ | ⟨hj, q'⟩
    · cases q'
      exact ⟨p, by rw [hj]; exact hσ, hp, h⟩
    · obtain ⟨w, h1, h2, h3⟩ := r.own j e q'
      have npart : ∀ {b : Addr}, b = w ∨ b ∈ parts H w → b ≠ p := fun {b} hb z => by
        subst z
        rcases hb with z | z
        · exact hj (r.ap j i e d w q' he h1 (by rw [← z]; exact hσ))
        · exact (r.po j e w q' h1 b z).2 i d he hσ
      have nw : w ≠ p := fun z => hj (r.ap j i e d p q' he (by rw [← z]; exact h1) hσ)
      exact ⟨w, h1, h2, h3.le ⟨fun _ _ _ h => h, fun _ _ _ h => h⟩ fun b u hb e _ => by rw [upd_ne (npart hb)]; exact e⟩
  · obtain ⟨e', q1⟩ := own' e1
    by_cases hq : q = p
    · rw [hq, parts_no upd_same no] at hb
      cases hb
    · obtain ⟨w, h1, h2, h3⟩ := r.own j e' q1
      rw [h1] at e2
      cases e2
      obtain ⟨u, hu, _⟩ := h3.at_
      rw [parts_eq hu ((upd_ne hq).trans hu)] at hb
      obtain ⟨g1, g2⟩ := r.po j e' _ q1 h1 b hb
      exact ⟨g1, fun k d2 k1 k2 => let ⟨d3, k3⟩ := own' k1; g2 k d3 k3 k2⟩
  · obtain ⟨d1', q1⟩ := own' e1
    obtain ⟨d2', q2⟩ := own' e2
    exact r.ap j k d1' d2' q q1 q2 e3 e4
end
/-! ### rules -/
def liftR {α : Type} (r : Res α) (k : α → Out) : Out := match r with
  | .ok a => k a
  | .exc c => .exc c
  | .stuck => .stuck
def mSeq (a b : Sv) : Sv := fun env => match a env with
  | .nx e => b e
  | o => o
def mSkip : Sv := fun env => .nx env
def sAsg (i : Nat) (m : Ev) : Sv := fun env => liftR (m (hid env)) fun d => .nx (env.set i (some (.val d)))
/-- .. read off what is owned: a number, a bool, a text, None -/
def scal1 : D → Bool
  | .none => true
  | .bool _ => true
  | .int _ => true
  | .str _ => true
  | _ => false
def sAsgV (i : Nat) (m : Ev) : Sv := fun env => liftR (m (vis env)) fun d => if scal1 d = true then .nx (env.set i (some (.val d))) else .stuck
def sOwnL (i : Nat) (m : Env → Res (List D)) : Sv := fun env => liftR (m (hid env)) fun ds => if big ds.length = true then .nx (env.set i (some (.own (.list ds)))) else .stuck
def sOwnD (i : Nat) : Sv := fun env => .nx (env.set i (some (.own (.dict []))))
def sApp (i : Nat) (m : Ev) : Sv := fun env => match env[i]? with
  | some (some (.own (.list ds))) => liftR (m (hid env)) fun d => if big ds.length = true then .nx (env.set i (some (.own (.list (ds ++ [d]))))) else .stuck
  | _ => .stuck
def putT (es : List (D × D)) (k : List Key) (d : D) : List (D × D) := if (es.any fun e => decide (keyT e.1 = some k)) = true then es.map (fun e => if keyT e.1 = some k then (e.1, d) else e) else es ++ [(.tuple (k.map kD), d)]
def sPut (i : Nat) (mv mk : Ev) : Sv := fun env => liftR (mv (hid env)) fun d => liftR (mk (hid env)) fun k => match env[i]?, keyT k with
  | some (some (.own (.dict es))), some kk => if big es.length = true then .nx (env.set i (some (.own (.dict (putT es kk d))))) else .stuck
  | _, _ => .stuck
def sIf (t : Env → Res Bool) (a b : Sv) : Sv := fun env => liftR (t (vis env)) fun x => if x = true then a env else b env
def sRet (m : Ev) : Sv := fun env => liftR (m (vis env)) .ret
def sExpr (m : Ev) : Sv := fun env => liftR (m (hid env)) fun _ => .nx env
def sRaise (c : XC) : Sv := fun _ => .exc c
def forLoop (i : Nat) (b : Sv) : List D → SEnv → Out
  | [], env => .nx env
  | d :: r, env => match b (env.set i (some (.val d))) with
    | .nx e => forLoop i b r e
    | .ct e => forLoop i b r e
    | .brk e => .nx e
    | o => o
def sFor (m : Env → Res (List D)) (i : Nat) (b : Sv) : Sv := fun env => liftR (m (hid env)) fun ds => forLoop i b ds env
section
variable {T : Gam} {ca : XC → Addr} {X : Cx} {W : WX} {st : Stmt} {rest : List Stmt} {e a b : Expr} {es : List Expr} {pos pos' : Pos} {m m' : Sv} {me mk : Ev} {ms : Env → Res (List D)} {mt : Env → Res Bool}
theorem ps_imp {t t' : TS} (h : PS X st t) (i : ∀ D σ H, t' D σ H → t D σ H) : PS X st t' := ⟨fun pins s σ H D I q => h.run pins s σ H D I (i D σ H q)⟩
theorem pss_imp {st : List Stmt} {t t' : TS} (h : PSs X st t) (i : ∀ D σ H, t' D σ H → t D σ H) : PSs X st t' := ⟨fun pins s σ H D I q => h.run pins s σ H D I (i D σ H q)⟩
theorem iss_nil : ISs T ca X W [] mSkip := ⟨pss_imp pss_nil fun D σ H ⟨H0, S0, os, env, rel, fin⟩ => fin os σ H rel⟩
theorem iss_cons (h : IS T ca X W st m) (h' : ISs T ca X W rest m') : ISs T ca X W (st :: rest) (mSeq m m') :=
  ⟨pss_imp (pss_cons h.ps h'.ps) fun D σ H ⟨H0, S0, os, env, rel, fin⟩ => ⟨H0, S0, os, env, rel, by
    unfold mSeq at fin
    cases hm : m env with
    | nx e => rw [hm] at fin; exact fun os' σ' H' r' => ⟨H0, S0, os', e, r', fin⟩
    | _ => rw [hm] at fin; exact fin⟩⟩
theorem iss_one (h : IS T ca X W st m) : ISs T ca X W [st] m := ⟨pss_one h.ps⟩
/-- an expression seen with what is owned hidden -/
theorem fin_hid {α β : Type} {R : Hp → β → α → Prop} {D : Ends} {H0 H : Hp} {S0 os : List Addr} {env : SEnv} {σ : L2.St} {r : Res α} {k : α → Out} {Q : β → Hp → Prop} (rel : RelS X.K T H0 S0 os env σ H) (fin : EndS X.K T ca W D H0 S0 (liftR r k))
    (h : ∀ a b H1, Pe T H H1 → RelS X.K T H0 S0 os env σ H1 → R H1 b a → EndS X.K T ca W D H0 S0 (k a) → Q b H1) : Fin T ca R W σ H r Q := by
  cases r with
  | ok a => exact fun b H1 p rr => h a b H1 p (rel.le p) rr fin
  | exc c => exact fun H1 p => fin σ H1 (rel.pe.trans p)
  | stuck => exact fin
theorem is_asg {i : Nat} {x : Str} (hN : X.N.Nodup) (h : IE T ca X W e me) (hi : X.N[i]? = some x := by rfl) (hx : Loc X.env.scope x := by first | exact Or.inl rfl | exact Or.inr rfl) (hs : swapsWith e (some (.Name x pos')) pos.line X.env = pure false := by rfl) (hf : X.fn x = true ∨ X.env.scope.names.lookup x = some .local := by first | exact .inl rfl | exact .inr rfl) :
    IS T ca X W (.Assign [.Name x pos'] e pos) (sAsg i me) :=
  ⟨ps_imp (ps_set hN hi hx h.pe hs hf) fun D σ H ⟨H0, S0, os, env, rel, fin⟩ => ⟨os ++ S0, hid env, rel.lv, rel.hidE, fin_hid (R := Rv X.K (os ++ S0)) rel fin fun d v H1 p rel1 rv f => f os _ H1 (rel1.set rv i)⟩⟩
theorem is_asgV {i : Nat} {x : Str} (hN : X.N.Nodup) (h : IE T ca X W e me) (hi : X.N[i]? = some x := by rfl) (hx : Loc X.env.scope x := by first | exact Or.inl rfl | exact Or.inr rfl) (hs : swapsWith e (some (.Name x pos')) pos.line X.env = pure false := by rfl) (hf : X.fn x = true ∨ X.env.scope.names.lookup x = some .local := by first | exact .inl rfl | exact .inr rfl) :
    IS T ca X W (.Assign [.Name x pos'] e pos) (sAsgV i me) :=
  ⟨ps_imp (ps_set hN hi hx h.pe hs hf) fun D σ H ⟨H0, S0, os, env, rel, fin⟩ => ⟨S0, vis env, rel.liveS, rel.visE, fin_hid (R := Rv X.K S0) rel fin fun d v H1 p rel1 rv f => by
    split at f
    · refine f os _ H1 (rel1.set ?_ i)
      cases rv <;> first | exact .non | exact .bl _ | exact .int _ | exact .str _ | (rename_i hh; cases hh)
    · exact f.elim⟩⟩
theorem is_ownL {i : Nat} {x : Str} {lp : Pos} (hN : X.N.Nodup) (h : IA T ca X W es ms) (hi : X.N[i]? = some x := by rfl) (hx : Loc X.env.scope x := by first | exact Or.inl rfl | exact Or.inr rfl) (hs : swapsWith (.List es lp) (some (.Name x pos')) pos.line X.env = pure false := by rfl) (hf : X.fn x = true ∨ X.env.scope.names.lookup x = some .local := by first | exact .inl rfl | exact .inr rfl) :
    IS T ca X W (.Assign [.Name x pos'] (.List es lp) pos) (sOwnL i ms) :=
  ⟨ps_imp (ps_set hN hi hx (pe_lst h.pa) hs hf) fun D σ H ⟨H0, S0, os, env, rel, fin⟩ => ⟨os ++ S0, hid env, rel.lv, rel.hidE, fin_hid (R := Ra X.K (os ++ S0)) rel fin fun ds vs H1 p rel1 rv f => by
    split at f
    · exact ⟨by rw [rv.length]; exact big_ok (by assumption), fun q hq => f _ _ _ (rel1.newOwn hq rfl (.lst upd_same rv) i)⟩
    · exact f.elim⟩⟩
theorem is_ownD {i : Nat} {x : Str} {lp : Pos} (hN : X.N.Nodup) (hi : X.N[i]? = some x := by rfl) (hx : Loc X.env.scope x := by first | exact Or.inl rfl | exact Or.inr rfl) (hs : swapsWith (.Dict [] [] lp) (some (.Name x pos')) pos.line X.env = pure false := by rfl) (hf : X.fn x = true ∨ X.env.scope.names.lookup x = some .local := by first | exact .inl rfl | exact .inr rfl) :
    IS T ca X W (.Assign [.Name x pos'] (.Dict [] [] lp) pos) (sOwnD i) :=
  ⟨ps_imp (ps_set hN hi hx pe_dnewT hs hf) fun D σ H ⟨H0, S0, os, env, rel, fin⟩ q hq => fin _ _ _ (rel.newOwn hq rfl (.dT upd_same .nil) i)⟩
theorem hid_own {env : SEnv} {i : Nat} : True := trivial
theorem is_app {i : Nat} {x : Str} {px apos cpos : Pos} (h : IE T ca X W e me) (hi : X.N[i]? = some x := by rfl) (hv : Vis X.env.scope x := by first | exact Or.inl rfl | exact Or.inr (Or.inl rfl) | exact Or.inr (Or.inr rfl)) (hd : (x == ("__debug__" : Str)) = false := by decide) (hcd : (x == ("__classdict__" : Str)) = false := by decide)
    (hst : starEach [e] X.env = (false, eval e X.env) :: starEach [] X.env := by rfl) (hpl : (backTo cpos (starEach [] X.env)).any (·.1) = false := by rfl) (hbase : attributeBase (.Name x px) "append" X.env (eval (.Name x px) X.env) = eval (.Name x px) X.env := by rfl) (hline : (apos.endLine == cpos.line) = true := by rfl) (hs : swapsWith (.Call (.Attribute (.Name x px) "append" apos) [e] [] cpos) none pos.line X.env = pure false := by rfl) :
    IS T ca X W (.Expr (.Call (.Attribute (.Name x px) "append" apos) [e] [] cpos) pos) (sApp i me) :=
  ⟨ps_imp (ps_expr (pe_bm PySem.F.plainAttrs_list PySem.F.slot_list_append PySem.F.type_list_append mt_append (pe_var hi hv hd hcd) (pa_cons h.pe pa_nil hst) (hbase := hbase) (hline := hline) (hs := hst) (hfew := by rw [hst]; rfl)) hs) fun D σ H ⟨H0, S0, os, env, rel, fin⟩ => by
    have look : ∀ {ds : List IL.D}, env[i]? = some (some (.own (.list ds))) → ∃ (p : Addr) (vs : List V), σ[i]? = some (some (.ref p)) ∧ p ∈ os ∧ H p = some (.lst vs) ∧ RpAll X.K (hide (os ++ S0) H) vs ds := fun {ds} he => by
      obtain ⟨p, h1, h2, h3⟩ := rel.own i _ he
      cases h3 with
      | lst e r => exact ⟨p, _, h1, h2, e, r⟩
    unfold sApp at fin
    split at fin
    · rename_i ds he
      obtain ⟨p, vs, h1, h2, h3, h4⟩ := look he
      refine ⟨.ref p, h1, .inl ⟨rfl, vs, .inl (.inl h3)⟩, os ++ S0, hid env, rel.lv, rel.hidE, fin_hid (R := Rv X.K (os ++ S0)) rel fin fun d v H1 p1 rel1 rv f => ?_⟩
      split at f
      · rename_i hb
        obtain ⟨q, g1, g2, g3⟩ := rel1.own i _ he
        rw [h1] at g1
        cases g1
        cases g3 with
        | @lst vs' _ g4 g5 =>
          refine ⟨p, vs', v, rfl, rfl, g4, ?_, f _ _ _ (rel1.putOwn he h1 g2 rfl (.lst upd_same (g5.app (.cons rv .nil))))⟩
          have := g5.length
          have := of_decide_eq_true hb
          have : (1000000 : Nat) < sizeLine := by decide
          omega
      · exact f.elim
    · exact fin.elim⟩
end
end IL
namespace IL
open PySem PySem.Spec PyProof.Rows L2
section
variable {T : Gam} {ca : XC → Addr} {X : Cx} {W : WX} {st : Stmt} {rest sa sb : List Stmt} {e a b c : Expr} {es : List Expr} {pos pos' : Pos} {m m' : Sv} {me mk : Ev} {ms : Env → Res (List D)} {mt : Env → Res Bool}
theorem is_if (hc : IT T ca X W c mt) (ha : ISs T ca X W sa m) (hb : ISs T ca X W sb m') : IS T ca X W (.If c sa sb pos) (sIf mt m m') :=
  ⟨ps_imp (ps_if hc.pt ha.ps hb.ps) fun D σ H ⟨H0, S0, os, env, rel, fin⟩ => ⟨S0, vis env, rel.liveS, rel.visE, fin_hid (R := Rb) rel fin fun d v H1 p rel1 rv f => by
    cases (show v = d from rv)
    cases d with
    | true => rw [if_pos rfl] at f ⊢; exact ⟨H0, S0, os, env, rel1, f⟩
    | false => rw [if_neg Bool.false_ne_true] at f ⊢; exact ⟨H0, S0, os, env, rel1, f⟩⟩⟩
theorem is_ret (h : IE T ca X W e me) : IS T ca X W (.Return (some e) pos) (sRet me) :=
  ⟨ps_imp (ps_ret h.pe) fun D σ H ⟨H0, S0, os, env, rel, fin⟩ => ⟨S0, vis env, rel.liveS, rel.visE, fin_hid (R := Rv X.K S0) rel fin fun d v H1 p rel1 rv f => f v H1 rel1.pe rv⟩⟩
theorem is_expr (h : IE T ca X W e me) (hs : swapsWith e none pos.line X.env = pure false := by rfl) : IS T ca X W (.Expr e pos) (sExpr me) :=
  ⟨ps_imp (ps_expr h.pe hs) fun D σ H ⟨H0, S0, os, env, rel, fin⟩ => ⟨os ++ S0, hid env, rel.lv, rel.hidE, fin_hid (R := Rv X.K (os ++ S0)) rel fin fun d v H1 p rel1 rv f => f os σ H1 rel1⟩⟩
/-- raise X('..'), X an own class -/
theorem is_raise {x : Str} {msg : Str} {j : Nat} {p p2 pos2 : Pos} {bm : List Value} {B newId initId : String} {cls : XC} (F : ExcBaseFacts B newId initId bm) (q : PySem.W.excIn X.K (ca cls) bm newId = true) (gC : X.mg x = some (.ref (ca cls))) (kC : PySem.W.keepIn X.K (.ref (ca cls)) = true) (r : Raises X (.ref (ca cls))) (tk : L2N.Takes X W)
    (hc : X.calm = true := by rfl) (hg : Gl X x := by rfl) (hdb : (x == ("__debug__" : Str)) = false := by decide) : IS T ca X W (.Raise (some (.Call (.Name x p) [.Constant (.str msg) j p2] [] pos2)) none pos) (sRaise cls) :=
  ⟨ps_imp (L2N.ps_raise hc tk (L2N.pmk_own F q gC kC r hg hdb)) fun D σ H ⟨H0, S0, os, env, rel, fin⟩ => fin σ H rel.pe⟩
/-- a statement that no way reaches -/
theorem is_never {st : Stmt} : IS T ca X W st (fun _ => .stuck) := ⟨ps_imp ps_never fun D σ H ⟨H0, S0, os, env, rel, fin⟩ => fin.elim⟩
/-! ### loops -/
/-- the state at a loop's head, seen as an entry of its own -/
theorem Pe.base {H0 H1 H2 : Hp} {os S0 : List Addr} {env : SEnv} {σ : L2.St} (r : RelS X.K T H0 S0 os env σ H1) (p : Pe T (hide os H1) H2) : Pe T H0 H2 := by
  have no : ∀ b u, H0 b = some u → b ∉ os := fun b u e z => by rw [r.fr b z] at e; cases e
  refine ⟨fun b u e n => p.st b u ((hide_in (no b u e)).trans (r.pe.st b u e n)) n, fun b e => ?_, fun t => p.tb ?_⟩
  · by_cases hb : b ∈ os
    · exact r.fr b hb
    · have z := p.fr b e
      rw [hide_in hb] at z
      exact r.pe.fr b z
  · exact (r.pe.tb t).hide fun a ha => r.lv.own a (List.mem_append_left _ ha)
theorem Pe.hideT {H : Hp} {os : List Addr} (h : LiveO os H) : Pe T (hide os H) H := by
  refine ⟨fun b u e _ => (hide_some e).2, fun b e => ?_, fun t => t.unhide h⟩
  unfold hide
  split
  · rfl
  · exact e
theorem RelS.base {H0 H1 : Hp} {os S0 : List Addr} {env : SEnv} {σ : L2.St} (r : RelS X.K T H0 S0 os env σ H1) : RelS X.K T (hide os H1) S0 os env σ H1 :=
  have lo : LiveO os H1 := fun a ha => r.lv.own a (List.mem_append_left _ ha)
  ⟨Pe.hideT lo, ⟨fun a ha => let ⟨o, h1, h2⟩ := r.liveS.own a ha; ⟨o, (hide_in fun z => r.notS z ha).trans h1, h2⟩, r.lv.tb.hide lo⟩, r.lv, r.len, r.val, r.own, fun p hp => if_pos hp, r.po, r.ap⟩
theorem RelS.unbase {H0 H1 H2 : Hp} {os os' S0 : List Addr} {env env' : SEnv} {σ σ' : L2.St} (r : RelS X.K T H0 S0 os env σ H1) (q : RelS X.K T (hide os H1) S0 os' env' σ' H2) : RelS X.K T H0 S0 os' env' σ' H2 := by
  refine ⟨Pe.base r q.pe, r.lv0, q.lv, q.len, q.val, q.own, fun p hp => ?_, q.po, q.ap⟩
  by_cases hb : p ∈ os
  · exact r.fr p hb
  · have z := q.fr p hp
    rw [hide_in hb] at z
    exact r.pe.fr p z
theorem EndS.base {D : Ends} {H0 H1 : Hp} {os S0 : List Addr} {env : SEnv} {σ : L2.St} {r : Out} (rel : RelS X.K T H0 S0 os env σ H1) (f : EndS X.K T ca W D H0 S0 r) : EndS X.K T ca W D (hide os H1) S0 r := by
  cases r with
  | nx e => exact fun os' σ' H' q => f os' σ' H' (rel.unbase q)
  | brk e => exact fun os' σ' H' q => f os' σ' H' (rel.unbase q)
  | ct e => exact fun os' σ' H' q => f os' σ' H' (rel.unbase q)
  | ret d => exact fun v H' p r => f v H' (Pe.base rel p) r
  | exc c => exact fun σ' H' p => f σ' H' (Pe.base rel p)
  | stuck => exact f
/-- the loop from its head on -/
theorem for_run {D : Ends} {Hb H1 : Hp} {os S0 : List Addr} {env : SEnv} {σ : L2.St} {i : Nat} {J : It} {ds : List IL.D} (rel : RelS X.K T Hb S0 os env σ H1) (hb : ∀ b, b ∉ os → Hb b = H1 b) (w : Walks X.K (os ++ S0) J H1 ds) (fin : EndS X.K T ca W D Hb S0 (forLoop i m ds env)) :
    ∃ V : Nat → Nat → L2.St → Hp → Prop, (∃ k, V 0 k σ H1) ∧ ∀ n k σ H, V n k σ H → (J.stop n H ∧ D.nx σ H) ∨ (J.go n H ∧ ∃ N : L2.St → Hp → Prop, (∀ σ' H', N σ' H' → ∃ k', k' < k ∧ V (n + 1) k' σ' H') ∧ ∀ x H', J.yld n H x H' → gName i x σ H' fun σ2 H2 => tS X.K T ca W m { D with nx := N, ct := N, bk := D.nx } σ2 H2) := by
  refine ⟨fun n k σ H => k = ds.length - n ∧ n ≤ ds.length ∧ ∃ os' env', RelS X.K T Hb S0 os' env' σ H ∧ EndS X.K T ca W D Hb S0 (forLoop i m (ds.drop n) env'), ⟨ds.length, rfl, Nat.zero_le _, os, env, rel, fin⟩, ?_⟩
  rintro n k σ' H ⟨rfl, hn, os', env', rel', f⟩
  have ky : Ky (os ++ S0) H1 H := fun b o nb e n => rel'.pe.st b o ((hb b fun z => nb (List.mem_append_left _ z)).trans e) n
  by_cases hlt : n < ds.length
  · refine .inr ?_
    have ed : ds[n]? = some ds[n] := List.getElem?_eq_getElem hlt
    rw [List.drop_eq_getElem_cons hlt] at f
    have ns : ∀ p ∈ os' ++ S0, p ∈ os ++ S0 ∨ H1 p = none := fun p hp => by
      rcases List.mem_append.mp hp with hp | hp
      · have z := rel'.fr p hp
        by_cases ho : p ∈ os
        · exact .inl (List.mem_append_left _ ho)
        · rw [hb p ho] at z
          exact .inr z
      · exact .inl (List.mem_append_right _ hp)
    obtain ⟨g, yl⟩ := w.go n _ H (os' ++ S0) ky rel'.lv.own ns ed
    refine ⟨g, fun σ H => n + 1 ≤ ds.length ∧ ∃ os' env', RelS X.K T Hb S0 os' env' σ H ∧ EndS X.K T ca W D Hb S0 (forLoop i m (ds.drop (n + 1)) env'), fun σ H h => ⟨ds.length - (n + 1), by omega, rfl, h⟩, fun x H' y => ?_⟩
    obtain ⟨rfl, rx⟩ := yl x H' y
    refine ⟨Hb, S0, os', env'.set i (some (.val ds[n])), rel'.set rx i, ?_⟩
    unfold forLoop at f
    cases hm : m (env'.set i (some (.val ds[n]))) with
    | nx e => rw [hm] at f; exact fun os2 σ2 H2 q => ⟨hlt, os2, e, q, f⟩
    | ct e => rw [hm] at f; exact fun os2 σ2 H2 q => ⟨hlt, os2, e, q, f⟩
    | brk e => rw [hm] at f; exact f
    | ret d => rw [hm] at f; exact f
    | exc c => rw [hm] at f; exact f
    | stuck => rw [hm] at f; exact f
  · have e : n = ds.length := by omega
    subst e
    rw [List.drop_length] at f
    exact .inl ⟨w.stop H ky, f os' σ' H rel'⟩
theorem is_for {i : Nat} {x : Str} {px : Pos} (hp : PassesOwn (model X.prog X.w) X.A X.env X.xe) (hN : X.N.Nodup) (hi : II T ca X W (.Name x px) e ms) (hb : ISs T ca X W sb m) (hix : X.N[i]? = some x := by rfl) (hx : Loc X.env.scope x := by first | exact Or.inl rfl | exact Or.inr rfl) (hf : X.fn x = true ∨ X.env.scope.names.lookup x = some .local := by first | exact .inl rfl | exact .inr rfl)
    (hc : X.calm = true := by rfl) (hs : ∀ x, foldedSetIterable e X.env x = pure x := by intro _; rfl) : IS T ca X W (.For (.Name x px) e sb [] pos) (sFor ms i m) :=
  ⟨ps_imp (ps_for hp hc hi.pi (pg_name hN hix hx hf) hb.ps hs) fun D σ H ⟨H0, S0, os, env, rel, fin⟩ => ⟨os ++ S0, hid env, rel.lv, rel.hidE, fin_hid (R := fun H1 J ds => Walks X.K (os ++ S0) J H1 ds) rel fin fun ds J H1 p rel1 w f =>
    for_run rel1.base (fun b hb => hide_in hb) w (EndS.base rel1 f)⟩⟩
/-! #### .. over a dict's keys -/
theorem rpAll_kD {K : PySem.W.Frag} {G : Hp} : ∀ k : List Key, RpAll K G (k.map kV) (k.map kD)
  | [] => .nil
  | .inl i :: k => .cons (.int i) (rpAll_kD k)
  | .inr i :: k => .cons (.str i) (rpAll_kD k)
theorem rp_kD {K : PySem.W.Frag} {G : Hp} : ∀ k : Key, Rp K G (kV k) (kD k)
  | .inl i => .int i
  | .inr i => .str i
theorem RpT.len {K : PySem.W.Frag} {G : Hp} : ∀ {kvs : List (List Key × V)} {es : List (D × D)}, RpT K G kvs es → kvs.length = es.length
  | _, _, .nil => rfl
  | _, _, .cons _ r => congrArg (· + 1) r.len
theorem RpK.len {K : PySem.W.Frag} {G : Hp} : ∀ {kvs : List (Key × V)} {es : List (D × D)}, RpK K G kvs es → kvs.length = es.length
  | _, _, .nil => rfl
  | _, _, .cons _ r => congrArg (· + 1) r.len
theorem RpT.key {K : PySem.W.Frag} {G : Hp} : ∀ {kvs : List (List Key × V)} {es : List (D × D)} {i : Nat} {k : List Key} {v : V}, RpT K G kvs es → kvs[i]? = some (k, v) → ∃ d, es[i]? = some (.tuple (k.map kD), d) ∧ Rp K G v d
  | _, _, _, _, _, .nil, e => by simp at e
  | _, _, 0, _, _, .cons h _, e => by
    simp at e
    obtain ⟨rfl, rfl⟩ := e
    exact ⟨_, rfl, h⟩
  | _, _, i + 1, _, _, .cons _ r, e => by
    obtain ⟨d, h1, h2⟩ := RpT.key (i := i) r (by simpa using e)
    exact ⟨d, by simpa using h1, h2⟩
theorem RpK.key {K : PySem.W.Frag} {G : Hp} : ∀ {kvs : List (Key × V)} {es : List (D × D)} {i : Nat} {k : Key} {v : V}, RpK K G kvs es → kvs[i]? = some (k, v) → ∃ d, es[i]? = some (kD k, d) ∧ Rp K G v d
  | _, _, _, _, _, .nil, e => by simp at e
  | _, _, 0, _, _, .cons h _, e => by
    simp at e
    obtain ⟨rfl, rfl⟩ := e
    exact ⟨_, rfl, h⟩
  | _, _, i + 1, _, _, .cons _ r, e => by
    obtain ⟨d, h1, h2⟩ := RpK.key (i := i) r (by simpa using e)
    exact ⟨d, by simpa using h1, h2⟩
theorem walks_T {K : PySem.W.Frag} {S : List Addr} {H : Hp} {G : Hp} {d : Addr} {o : Obj} {kvs : List (List Key × V)} {es : List (D × D)} (hd : d ∉ S) (h : H d = some (.frz o (.dT kvs))) (r : RpT K G kvs es) : Walks K S (Itkt d o kvs) H (es.map (·.1)) where
  go := fun i x H' S' k lv ns e => by
    have h' : H' d = some (.frz o (.dT kvs)) := k d _ hd h rfl
    obtain ⟨y, ey, rfl⟩ := get_map e
    have hl : i < kvs.length := by rw [r.len]; exact (List.getElem?_eq_some_iff.mp ey).1
    refine ⟨⟨h', hl⟩, fun v H'' yl => ?_⟩
    obtain ⟨eH, kk, vv, q, e1, rfl, hq⟩ := yl
    obtain ⟨d', e2, _⟩ := r.key e1
    rw [ey] at e2
    cases e2
    exact ⟨eH, .tup ((hide_in (lv.tup hq)).trans hq) (rpAll_kD kk)⟩
  stop := fun H' k => ⟨k d _ hd h rfl, by rw [List.length_map, r.len]; exact Nat.le_refl _⟩
theorem walks_K {K : PySem.W.Frag} {S : List Addr} {H : Hp} {G : Hp} {d : Addr} {o : Obj} {kvs : List (Key × V)} {es : List (D × D)} (hd : d ∉ S) (h : H d = some (.frz o (.dK kvs))) (r : RpK K G kvs es) : Walks K S (Itk d o kvs) H (es.map (·.1)) where
  go := fun i x H' S' k lv ns e => by
    have h' : H' d = some (.frz o (.dK kvs)) := k d _ hd h rfl
    obtain ⟨y, ey, rfl⟩ := get_map e
    have hl : i < kvs.length := by rw [r.len]; exact (List.getElem?_eq_some_iff.mp ey).1
    refine ⟨⟨h', hl⟩, fun v H'' yl => ?_⟩
    obtain ⟨eH, kk, vv, e1, rfl⟩ := yl
    obtain ⟨d', e2, _⟩ := r.key e1
    rw [ey] at e2
    cases e2
    exact ⟨eH, rp_kD kk⟩
  stop := fun H' k => ⟨k d _ hd h rfl, by rw [List.length_map, r.len]; exact Nat.le_refl _⟩
/-! a dict locked, and let go -/
section
variable {H : Hp} {d : Addr} {u : HO} {o : Obj} {S : List Addr}
theorem lock_rd (h : H d = some u) (mu : isDat u = true) (nt : ∀ xs, u ≠ .tup xs) : RdLe (hide S H) (hide S (upd H d (.frz o u))) := by
  refine ⟨fun a w hw r => ?_, fun a xs hx r => ?_⟩
  · rcases r with r | ⟨ob, r⟩
    · obtain ⟨h1, h2⟩ := hide_some r
      by_cases e : a = d
      · subst e
        rw [h] at h2
        cases h2
        exact .inr ⟨o, (hide_in h1).trans upd_same⟩
      · exact .inl ((hide_in h1).trans ((upd_ne e).trans h2))
    · obtain ⟨h1, h2⟩ := hide_some r
      by_cases e : a = d
      · subst e
        rw [h] at h2
        cases h2
        cases mu
      · exact .inr ⟨ob, (hide_in h1).trans ((upd_ne e).trans h2)⟩
  · obtain ⟨h1, h2⟩ := hide_some r
    have e : a ≠ d := fun e => by
      subst e
      rw [h] at h2
      cases Option.some.inj h2
      cases u <;> first | exact nt _ rfl | (cases hx; done) | (cases mu; done)
    exact (hide_in h1).trans ((upd_ne e).trans h2)
theorem unlock_rd (h : H d = some (.frz o u)) : RdLe (hide S H) (hide S (upd H d u)) := by
  refine ⟨fun a w hw r => ?_, fun a xs hx r => ?_⟩
  · rcases r with r | ⟨ob, r⟩
    · obtain ⟨h1, h2⟩ := hide_some r
      by_cases e : a = d
      · subst e
        rw [h] at h2
        cases h2
        cases hw
      · exact .inl ((hide_in h1).trans ((upd_ne e).trans h2))
    · obtain ⟨h1, h2⟩ := hide_some r
      by_cases e : a = d
      · subst e
        rw [h] at h2
        cases h2
        exact .inl ((hide_in h1).trans upd_same)
      · exact .inr ⟨ob, (hide_in h1).trans ((upd_ne e).trans h2)⟩
  · obtain ⟨h1, h2⟩ := hide_some r
    have e : a ≠ d := fun e => by
      subst e
      rw [h] at h2
      cases h2
      cases hx
    exact (hide_in h1).trans ((upd_ne e).trans h2)
/-- from the locked heap on, and unlocked: as if it had not been locked -/
theorem fix_of_rd {u : HO} (h : isDat u = true) (nt : ∀ xs, u ≠ .tup xs) : fixO u = false := by
  cases u <;> first | rfl | exact absurd rfl (nt _) | cases h
theorem Pe.lock {H' : Hp} (h : H d = some u) (hu : isDat u = true) (nt : ∀ xs, u ≠ .tup xs) (p : Pe T (upd H d (.frz o u)) H') : H' d = some (.frz o u) ∧ Pe T H (upd H' d u) := by
  have e := p.st d _ upd_same rfl
  refine ⟨e, fun b w hb n => ?_, fun b hb => ?_, fun t => ?_⟩
  · by_cases q : b = d
    · subst q
      rw [h] at hb
      cases hb
      exact upd_same
    · rw [upd_ne q]
      exact p.st b w ((upd_ne q).trans hb) n
  · by_cases q : b = d
    · subst q
      rw [upd_same] at hb
      cases hb
    · rw [upd_ne q] at hb
      have z := p.fr b hb
      rw [upd_ne q] at z
      exact z
  · exact TabC.upd (p.tb (t.upd h (isTbl_of_rd hu) (fix_of_rd hu nt))) e rfl rfl
end
theorem dict_rp {K : PySem.W.Frag} {S : List Addr} {H : Hp} {v : V} {es : List (IL.D × IL.D)} (h : Rp K (hide S H) v (.dict es)) (no : isOb (.dict es) = false) : ∃ a, v = .ref a ∧ a ∉ S ∧ ((∃ kvs, Rd H a (.dT kvs) ∧ RpT K (hide S H) kvs es) ∨ ∃ kvs, Rd H a (.dK kvs) ∧ RpK K (hide S H) kvs es) := by
  have nn : ∀ {a : Addr} {u : HO}, Rd (hide S H) a u → a ∉ S := fun {a u} r => by
    rcases r with r | ⟨o, r⟩
    · exact (hide_some r).1
    · exact (hide_some r).1
  cases h with
  | dT h r => exact ⟨_, rfl, nn h, .inl ⟨_, rd_hide h, r⟩⟩
  | dK h r => exact ⟨_, rfl, nn h, .inr ⟨_, rd_hide h, r⟩⟩
  | ob => cases no
def dictOf : D → Option (List D)
  | .dict es => some (es.map (·.1))
  | _ => none
end
/-- for x in d: body, d a name's dict; no exception leaves the body -/
def noExcO : Out → Out
  | .exc _ => .stuck
  | o => o
def sForD (k : Nat) (i : Nat) (b : Sv) : Sv := fun env => match env[k]? with
  | some (some (.val (.dict es))) => if isOb (.dict es) = true then .stuck else noExcO (forLoop i b (es.map (·.1)) env)
  | _ => .stuck
section
variable {T : Gam} {ca : XC → Addr} {X : Cx} {W : WX} {sb : List Stmt} {pos : Pos} {m : Sv}
theorem ps_or {st : Stmt} {t t' : TS} (h : PS X st t) (h' : PS X st t') : PS X st (fun D σ H => t D σ H ∨ t' D σ H) := ⟨fun pins s σ H D I q => q.elim (h.run pins s σ H D I) (h'.run pins s σ H D I)⟩
theorem end_noExc {D : Ends} {H0 : Hp} {S0 : List Addr} {r : Out} (f : EndS X.K T ca W D H0 S0 (noExcO r)) : EndS X.K T ca W D H0 S0 r := by
  cases r <;> first | exact f | exact f.elim
/-- the locked loop, given back -/
theorem lock_run {D : Ends} {H0 H : Hp} {os S0 : List Addr} {env : SEnv} {σ : L2.St} {i : Nat} {d : Addr} {u : HO} {od : Obj} {ds : List IL.D} {J : It} (rel : RelS X.K T H0 S0 os env σ H) (hu : H d = some u) (mu : Mut (some u)) (du : isDat u = true) (nt : ∀ xs, u ≠ .tup xs) (hdS : d ∉ os ++ S0)
    (w : Walks X.K (os ++ S0) J (upd H d (.frz od u)) ds) (fin : EndS X.K T ca W D H0 S0 (noExcO (forLoop i m ds env))) :
    ∃ V : Nat → Nat → L2.St → Hp → Prop, (∃ k, V 0 k σ (upd H d (.frz od u))) ∧ ∀ n k σ H, V n k σ H → (J.stop n H ∧ (H d = some (.frz od u) ∧ D.nx σ (upd H d u))) ∨ (J.go n H ∧ ∃ N : L2.St → Hp → Prop, (∀ σ' H', N σ' H' → ∃ k', k' < k ∧ V (n + 1) k' σ' H') ∧ ∀ x H', J.yld n H x H' → gName i x σ H' fun σ2 H2 =>
      tS X.K T ca W m { nx := N, rt := fun v H' => H' d = some (.frz od u) ∧ D.rt v (upd H' d u), ct := N, bk := fun σ' H' => H' d = some (.frz od u) ∧ D.nx σ' (upd H' d u) } σ2 H2) := by
  have dos : d ∉ os := fun z => hdS (List.mem_append_left _ z)
  -- the locked state
  have ll : RdLe (hide (os ++ S0) H) (hide (os ++ S0) (upd H d (.frz od u))) := lock_rd hu du nt
  have lvl : ∀ {S : List Addr}, Live T S H → Live T S (upd H d (.frz od u)) := fun {S} l => ⟨fun a ha => by
    by_cases q : a = d
    · exact ⟨_, by rw [q]; exact upd_same, rfl⟩
    · rw [upd_ne q]
      exact l.own a ha, l.tb.upd hu (isTbl_of_rd du) (fix_of_rd du nt)⟩
  have lol : LiveO os (upd H d (.frz od u)) := fun a ha => (lvl rel.lv).own a (List.mem_append_left _ ha)
  have relL : RelS X.K T (hide os (upd H d (.frz od u))) S0 os env σ (upd H d (.frz od u)) := by
    refine ⟨Pe.hideT lol, ⟨fun a ha => ?_, (lvl rel.lv).tb.hide lol⟩, lvl rel.lv, rel.len, fun j e q => ?_, fun j e q => ?_, fun p hp => if_pos hp, fun j e q e1 e2 b hb => ?_, rel.ap⟩
    · obtain ⟨o, h1, h2⟩ := (lvl rel.liveS).own a ha
      exact ⟨o, (hide_in fun z => rel.notS z ha).trans h1, h2⟩
    · obtain ⟨w, h1, h2⟩ := rel.val j e q
      exact ⟨w, h1, h2.le ll⟩
    · obtain ⟨w, h1, h2, h3⟩ := rel.own j e q
      exact ⟨w, h1, h2, h3.le ll fun b x hb e _ => (upd_ne fun z => dos (by
        rw [← z]
        rcases hb with hb | hb
        · rw [hb]; exact h2
        · exact (rel.po j _ w q h1 b hb).1)).trans e⟩
    · obtain ⟨w, h1, h2, h3⟩ := rel.own j e e1
      rw [h1] at e2
      cases e2
      obtain ⟨x, hx, _⟩ := h3.at_
      rw [parts_eq hx ((upd_ne fun z => dos (by rw [← z]; exact h2)).trans hx)] at hb
      exact rel.po j e _ e1 h1 b hb
  -- from there on, unlocked
  have pk : ∀ {H' : Hp}, Pe T (hide os (upd H d (.frz od u))) H' → H' d = some (.frz od u) ∧ Pe T (hide os H) (upd H' d u) := fun {H'} p => by
    have e1 : hide os (upd H d (.frz od u)) = upd (hide os H) d (.frz od u) := by
      funext a
      by_cases q : a = d
      · subst q
        rw [hide_in dos, upd_same, upd_same]
      · rw [upd_ne q]
        unfold hide
        split
        · rfl
        · rw [upd_ne q]
    rw [e1] at p
    exact Pe.lock ((hide_in dos).trans hu) du nt p
  have un : ∀ {os' : List Addr} {env' : SEnv} {σ' : L2.St} {H' : Hp}, RelS X.K T (hide os (upd H d (.frz od u))) S0 os' env' σ' H' → H' d = some (.frz od u) ∧ RelS X.K T H0 S0 os' env' σ' (upd H' d u) := fun {os' env' σ' H'} r => by
    obtain ⟨e, p⟩ := pk r.pe
    have dos' : d ∉ os' := fun z => by
      have q := r.fr d z
      rw [hide_in dos, upd_same] at q
      cases q
    have l2 : RdLe (hide (os' ++ S0) H') (hide (os' ++ S0) (upd H' d u)) := unlock_rd e
    refine ⟨e, RelS.unbase rel ⟨p, rel.base.lv0, ⟨fun a ha => ?_, r.lv.tb.upd e rfl rfl⟩, r.len, fun j x q => ?_, fun j x q => ?_, fun q hq => ?_, fun j x q e1 e2 b hb => ?_, r.ap⟩⟩
    · by_cases q : a = d
      · refine ⟨u, by rw [q]; exact upd_same, ?_⟩
        cases u <;> first | rfl | (exact mu.elim) | (cases du)
      · rw [upd_ne q]
        exact r.lv.own a ha
    · obtain ⟨w, h1, h2⟩ := r.val j x q
      exact ⟨w, h1, h2.le l2⟩
    · obtain ⟨w, h1, h2, h3⟩ := r.own j x q
      exact ⟨w, h1, h2, h3.le l2 fun b y hb e _ => (upd_ne fun z => dos' (by
        rw [← z]
        rcases hb with hb | hb
        · rw [hb]; exact h2
        · exact (r.po j _ w q h1 b hb).1)).trans e⟩
    · have z := r.fr q hq
      have qd : q ≠ d := fun e => dos' (by rw [← e]; exact hq)
      by_cases qo : q ∈ os
      · exact if_pos qo
      · rw [hide_in qo, upd_ne qd] at z
        rw [hide_in qo]
        exact z
    · obtain ⟨w, h1, h2, h3⟩ := r.own j x e1
      rw [h1] at e2
      cases e2
      obtain ⟨y, hy, _⟩ := h3.at_
      have wd : q ≠ d := fun z => dos' (by rw [← z]; exact h2)
      rw [parts_eq hy ((upd_ne wd).trans hy)] at hb
      exact r.po j _ _ e1 h1 b hb
  refine for_run (D := { nx := fun σ' H' => H' d = some (.frz od u) ∧ D.nx σ' (upd H' d u), rt := fun v H' => H' d = some (.frz od u) ∧ D.rt v (upd H' d u), bk := fun σ' H' => H' d = some (.frz od u) ∧ D.bk σ' (upd H' d u), ct := fun σ' H' => H' d = some (.frz od u) ∧ D.ct σ' (upd H' d u) }) relL (fun b hb => hide_in hb) w ?_
  cases hr : forLoop i m ds env with
  | nx e => rw [hr] at fin; exact fun os' σ' H' r => ⟨(un r).1, fin os' σ' _ (un r).2⟩
  | brk e => rw [hr] at fin; exact fun os' σ' H' r => ⟨(un r).1, fin os' σ' _ (un r).2⟩
  | ct e => rw [hr] at fin; exact fun os' σ' H' r => ⟨(un r).1, fin os' σ' _ (un r).2⟩
  | ret z =>
    rw [hr] at fin
    exact fun v' H' p rv' => ⟨(pk p).1, fin v' _ (Pe.base rel (pk p).2) (rv'.le (unlock_rd (pk p).1))⟩
  | exc c => rw [hr] at fin; exact fin.elim
  | stuck => rw [hr] at fin; exact fin.elim
theorem is_forD {i k : Nat} {x y : Str} {px py : Pos} (hp : PassesOwn (model X.prog X.w) X.A X.env X.xe) (hN : X.N.Nodup) (hb : ISs T ca X W sb m) (hky : X.N[k]? = some y := by rfl) (hvy : Vis X.env.scope y := by first | exact Or.inl rfl | exact Or.inr (Or.inl rfl) | exact Or.inr (Or.inr rfl)) (hix : X.N[i]? = some x := by rfl) (hx : Loc X.env.scope x := by first | exact Or.inl rfl | exact Or.inr rfl)
    (hf : X.fn x = true ∨ X.env.scope.names.lookup x = some .local := by first | exact .inl rfl | exact .inr rfl) (hc : X.calm = true := by rfl) (hs : ∀ z, foldedSetIterable (.Name y py) X.env z = pure z := by intro _; rfl) (hd : (y == ("__debug__" : Str)) = false := by decide) (hcd : (y == ("__classdict__" : Str)) = false := by decide) :
    IS T ca X W (.For (.Name x px) (.Name y py) sb [] pos) (sForD k i m) :=
  ⟨ps_imp (ps_or (ps_lock (ps_for hp hc (pi_keys (pe_var (pos := py) hky hvy hd hcd)) (pg_name hN hix hx hf) hb.ps hs)) (ps_for hp hc (pi_keys (pe_var (pos := py) hky hvy hd hcd)) (pg_name hN hix hx hf) hb.ps hs)) fun D σ H ⟨H0, S0, os, env, rel, fin⟩ => by
    unfold sForD at fin
    split at fin
    · rename_i es he
      split at fin
      · exact fin.elim
      rename_i no
      obtain ⟨v, hv, rv⟩ := rel.val k _ he
      obtain ⟨d, rfl, hdS, hdd⟩ := dict_rp rv (by simpa using no)
      rcases hdd with ⟨kvs, r1 | ⟨o1, r1⟩, r2⟩ | ⟨kvs, r1 | ⟨o1, r1⟩, r2⟩
      · exact .inl ⟨d, _, r1, True.intro, fun od => ⟨_, hv, d, od, rfl, .inr ⟨kvs, upd_same, lock_run rel r1 True.intro rfl (fun xs z => by cases z) hdS (walks_T hdS upd_same r2) fin⟩⟩⟩
      · exact .inr ⟨_, hv, d, o1, rfl, .inr ⟨kvs, r1, for_run rel.base (fun b hb => hide_in hb) (walks_T hdS r1 r2) (EndS.base rel (end_noExc fin))⟩⟩
      · exact .inl ⟨d, _, r1, True.intro, fun od => ⟨_, hv, d, od, rfl, .inl ⟨kvs, upd_same, lock_run rel r1 True.intro rfl (fun xs z => by cases z) hdS (walks_K hdS upd_same r2) fin⟩⟩⟩
      · exact .inr ⟨_, hv, d, o1, rfl, .inl ⟨kvs, r1, for_run rel.base (fun b hb => hide_in hb) (walks_K hdS r1 r2) (EndS.base rel (end_noExc fin))⟩⟩
    · exact fin.elim⟩
end
/-! ### a def -/
def outR : Out → Res D
  | .nx _ => .ok .none
  | .ret d => .ok d
  | .exc c => .exc c
  | _ => .stuck
def startE (n : Nat) (ds : List D) : SEnv := ds.map (fun d => some (.val d)) ++ List.replicate (n - ds.length) none
section
variable {T : Gam} {ca : XC → Addr} {P : Program} {w : World} {K : PySem.W.Frag} {mg : Str → Option Value} {base : Heap}
theorem start_rel {H : Hp} {S : List Addr} {vs : List V} {ds : List D} {N : List Str} (lv : Live T S H) (r : RpAll K (hide S H) vs ds) : RelS K T H S [] (startE N.length ds) (L2.start N vs) H := by
  have hl := r.length
  refine ⟨.refl, lv, lv, ?_, fun i d e => ?_, fun i d e => ?_, fun p hp => (by cases hp), fun i d q q1 => ?_, fun i j d e p q1 => ?_⟩
  · unfold startE L2.start
    simp [hl]
  · have e' : ds[i]? = some d := by
      unfold startE at e
      by_cases hi : i < ds.length
      · rw [List.getElem?_append_left (by simpa using hi)] at e
        obtain ⟨x, h1, h2⟩ := get_map e
        cases h2
        exact h1
      · rw [List.getElem?_append_right (by simpa using hi)] at e
        obtain ⟨_, z⟩ := List.mem_replicate.mp (List.mem_of_getElem? e)
        cases z
    obtain ⟨v, h1, h2⟩ := r.get e'
    refine ⟨v, ?_, h2⟩
    unfold L2.start
    have hi := (List.getElem?_eq_some_iff.mp h1).1
    rw [List.getElem?_append_left (by simpa using hi), List.getElem?_map, h1]
    rfl
  · unfold startE at e
    by_cases hi : i < ds.length
    · rw [List.getElem?_append_left (by simpa using hi)] at e
      obtain ⟨x, h1, h2⟩ := get_map e
      cases h2
    · rw [List.getElem?_append_right (by simpa using hi)] at e
      obtain ⟨_, z⟩ := List.mem_replicate.mp (List.mem_of_getElem? e)
      cases z
  · unfold startE at q1
    by_cases hi : i < ds.length
    · rw [List.getElem?_append_left (by simpa using hi)] at q1
      obtain ⟨x, h1, h2⟩ := get_map q1
      cases h2
    · rw [List.getElem?_append_right (by simpa using hi)] at q1
      obtain ⟨_, z⟩ := List.mem_replicate.mp (List.mem_of_getElem? q1)
      cases z
  · unfold startE at q1
    by_cases hi : i < ds.length
    · rw [List.getElem?_append_left (by simpa using hi)] at q1
      obtain ⟨x, h1, h2⟩ := get_map q1
      cases h2
    · rw [List.getElem?_append_right (by simpa using hi)] at q1
      obtain ⟨_, z⟩ := List.mem_replicate.mp (List.mem_of_getElem? q1)
      cases z
/-- a def by its body's rule -/
theorem fn_ok {x : Str} {st : Stmt} {f : Addr} {fd : FuncData} {N ps : List Str} {k : Nat} {m : Sv} (F : L2.Fun K x x st f fd) (S : FnScope N ps (defScope st)) 
    (hbody : ∀ (cdv : Value) (A : Around) (outer : List PySem.Env) (s : Shared) (H : Hp) (E : XK), Room k (A.deeper (envOfC x (defScope st) s.heap.objs.size f cdv)) →
      ISs T ca (cxOf (L2N.CX P w) P w K mg base N x (defScope st) f cdv A outer s H E) (fun c d _ H => E c d H) (defBody st) m) : FnOk P w K mg base (L2N.CX P w) (k + 1) f fd ps (SpD T ca K ps.length fun ds => outR (m (startE N.length ds))) := by
  obtain ⟨oc, od, kV, doc, pm, an, cdv, ct, osl, rfl, lk, hcd⟩ := F.ex
  refine fn_of lk hcd S (fun vs H Q E h => h.1) fun A outer s H vs Q E hr ⟨hl, S0, ds, lv, rr, fin⟩ => ⟨_, (hbody cdv A outer s H E hr).ps, H, S0, [], startE N.length ds, start_rel lv rr, ?_⟩
  have fin : Fin T ca (Rv K S0) (fun c d _ H' => E c d H') [] H (outR (m (startE N.length ds))) Q := fin
  cases hm : m (startE N.length ds) with
  | nx e => rw [hm] at fin; exact fun os σ H' r => fin .non H' r.pe .non
  | ret d => rw [hm] at fin; exact fun v H' p r => fin v H' p r
  | exc c => rw [hm] at fin; exact fun σ H' p => fin H' p
  | brk e => rw [hm] at fin; exact fin.elim
  | ct e => rw [hm] at fin; exact fin.elim
  | stuck => rw [hm] at fin; exact fin.elim
theorem fnD_of {x : Str} {st : Stmt} {f : Addr} {fd : FuncData} {N ps : List Str} {k n : Nat} {m : Sv} (F : L2.Fun K x x st f fd) (hm : mg x = some (.ref f)) (hb : L2.Binds K fd ps []) (hn : ps.length = n) (S : FnScope N ps (defScope st)) 
    (hbody : ∀ (cdv : Value) (A : Around) (outer : List PySem.Env) (s : Shared) (H : Hp) (E : XK), Room k (A.deeper (envOfC x (defScope st) s.heap.objs.size f cdv)) →
      ISs T ca (cxOf (L2N.CX P w) P w K mg base N x (defScope st) f cdv A outer s H E) (fun c d _ H => E c d H) (defBody st) m) : FnD T ca P w K mg base (k + 1) x n fun ds => outR (m (startE N.length ds)) := by
  subst hn
  exact ⟨f, fd, ps, rfl, fn_ok F S hbody, hm, F.kp, hb⟩
end
end IL
namespace IL
open PySem PySem.Spec PyProof.Rows L2
/-! ### a lambda that is made: the heap goes on -/
section
variable {T : Gam} {X : Cx} {pins : List (Addr × Obj)} {σ : L2.St} {H : Hp} {s : Shared}
abbrev lq (X : Cx) : Str := X.env.qual ++ "<lambda>"
theorem no_tbl_of {o : HO} (h : isTbl o = false) : ∀ ps, o ≠ .tbl ps := fun ps z => by rw [z] at h; cases h
/-- the table at P grows by one row -/
theorem pe_grow {P c : Addr} {q : Str} {ps : Array Value} {pos : Pos} (hT : TabC T H) (hP : H P = some (.tbl ps)) (hc : H c = none) (hu : ∀ p ∈ T.tabs, p.1 = P → p.2 = q) (t3 : TriplesOk ps.toList)
    (old : ∀ (p : Pos) (v : Value), codeAmong p ps.toList = some v → ∃ b, v = .ref b ∧ H b = some (LamX.CodeO b q)) :
    Pe T H (upd (upd H P (.tbl (ps ++ #[rawInt pos.line, rawInt pos.col, .ref c]))) c (LamX.CodeO c q)) := by
  have Pc : P ≠ c := ne_of_none hP hc
  have keepN : ∀ b o, H b = some o → isTbl o = false → upd (upd H P (.tbl (ps ++ #[rawInt pos.line, rawInt pos.col, .ref c]))) c (LamX.CodeO c q) b = some o := fun b o e n => by
    have h1 : b ≠ c := ne_of_none e hc
    have h2 : b ≠ P := fun z => no_tbl_of n ps (Option.some.inj (e.symm.trans (by rw [z]; exact hP)))
    rw [upd_ne h1, upd_ne h2]
    exact e
  have snoc : (ps ++ #[rawInt pos.line, rawInt pos.col, Value.ref c]).toList = ps.toList ++ [rawInt pos.line, rawInt pos.col, .ref c] := by simp
  refine ⟨keepN, fun b e => ?_, fun _ => ⟨fun p hp => ?_, ?_⟩⟩
  · by_cases h1 : b = c
    · rw [h1]; exact hc
    · rw [upd_ne h1] at e
      by_cases h2 : b = P
      · rw [h2, upd_same] at e; cases e
      · rwa [upd_ne h2] at e
  · by_cases hb : p.1 = P
    · rw [hu p hp hb, hb]
      refine ⟨_, (upd_ne Pc).trans upd_same, by rw [snoc]; exact PySem.TriplesOk_snoc _ _ _ _ t3, fun p' v hv => ?_⟩
      rw [snoc] at hv
      rcases LamX.among_app _ t3 hv with z | z
      · obtain ⟨b, e1, e2⟩ := old p' v z
        exact ⟨b, e1, keepN _ _ e2 rfl⟩
      · exact ⟨c, z, upd_same⟩
    · obtain ⟨rs, a1, a2, a3⟩ := hT.at_ p hp
      have hne : p.1 ≠ c := ne_of_none a1 hc
      refine ⟨rs, ((upd_ne hne).trans (upd_ne hb)).trans a1, a2, fun p' v hv => ?_⟩
      obtain ⟨b, e1, e2⟩ := a3 p' v hv
      exact ⟨b, e1, keepN _ _ e2 rfl⟩
  · refine T.mono H _ (fun b o e f => keepN b o e ?_) hT.inv
    cases o <;> first | rfl | cases f
/-- .. as LamX.lam_make2, and the heap goes on -/
theorem lam_new {c P : Addr} {ar : Arguments} {b : Expr} {sc : Scope} {pos : Pos} {E : Value → Shared → Prop} {Q : Value → Shared → Prop} (J : Inv X pins σ H s) (B : LamX.TabB X.base X.mg c P) (hcd : X.env.code = .ref c)
    (hin : (P, lq X) ∈ T.tabs) (hone : ∀ p ∈ T.tabs, p.1 = P → p.2 = lq X) (hT : TabC T H) (hdef : defaultsOf ar X.env = ([], [])) (hfr : ∀ y ∈ sc.names, y.2 = .free → ∃ c, X.env.cells.lookup y.1 = some c)
    (k : ∀ (f c' : Addr) (pm ctv : Value) (H1 : Hp) (s' : Shared), Inv X pins σ H1 s' → Pe T H H1 →
      s'.heap.get? f = some (PySem.W.kla_obj "<lambda>" (lq X) ar b sc (cloFrom X.env.cells sc.names []) pm c' ctv) → H1 f = none → f ∉ frs X.stack → H1 c' = some (LamX.CodeO c' (lq X)) → Q (.ref f) s') :
    wpAny (model X.prog X.w) X.A (eval (.Lambda ar b sc pos) X.env) Q E s := by
  obtain ⟨ps, hP, t3, old⟩ := hT.at_ _ hin
  have out : ∀ g, s.heap.objs.size ≤ g → g ∉ frs X.stack := fun g hg z => by
    rcases List.mem_cons.mp (J.stkSub _ z) with e | e
    · have lt := J.lt
      rw [← e] at lt
      exact absurd (Nat.lt_of_lt_of_le lt hg) (Nat.lt_irrefl g)
    · exact J.nofs hg e
  have bk := J.bk
  have gP : s.heap.get? P = some { cls := .none, data := .fields ps } := J.hok P _ hP
  refine PySem.W.kla_eval hdef ?_
  cases hit : codeAmong pos ps.toList with
  | some v =>
    obtain ⟨c', rfl, hco⟩ := old pos v hit
    refine PySem.W.kla_makeFunctionHit (c := c) (P := P) (ps := ps) (mg := X.mg) (closure_ok hfr) J.ok.glob (J.mod.glob.keeps bk) hcd (B.code.keeps bk) gP t3 hit (B.bm.keeps bk) fun ctv h' tk kp hz => ?_
    exact k h'.objs.size c' ((X.mg "__name__").getD .none) ctv H _ (J.kept (t' := tk) fun b o e => Heap.get?_push_of_some _ (kp b o e)) .refl (Heap.get?_push_size _ rfl) (J.hok.fresh hz) (out _ hz) hco
  | none =>
    refine PySem.W.kla_makeFunction (ps := ps) (P := P) (c := c) (mg := X.mg) (closure_ok hfr) J.ok.glob (J.mod.glob.keeps bk) hcd (B.code.keeps bk) gP t3 hit B.gP (B.bm.keeps bk) fun c' ctv h' tk eb hge hlt rec' tb => ?_
    obtain ⟨c2, oc, vs, t, e2, hoc, hd, hv⟩ := rec'
    cases e2
    have sz : s.heap.objs.size ≤ h'.objs.size := Nat.le_trans hge (Nat.le_of_lt hlt)
    have nC : H c' = none := J.hok.fresh hge
    have J1 := LamX.inv_table (t' := tk) (more := #[rawInt pos.line, rawInt pos.col, .ref c']) (q := lq X) (c := c') J hP
      (h' := h'.push (PySem.W.kla_obj "<lambda>" (lq X) ar b sc (cloFrom X.env.cells sc.names []) ((X.mg "__name__").getD .none) c' ctv)) (fun b o hb e => Heap.get?_push_of_some _ (eb b o hb e)) (Heap.get?_push_of_some _ tb) hge ⟨oc, vs, t, Heap.get?_push_of_some _ hoc, hd, hv⟩
    refine k h'.objs.size c' ((X.mg "__name__").getD .none) ctv _ _ J1 (pe_grow hT hP nC hone t3 old) (Heap.get?_push_size _ rfl) ?_ (out _ sz) upd_same
    have n1 : h'.objs.size ≠ c' := Nat.ne_of_gt hlt
    have n2 : h'.objs.size ≠ P := Nat.ne_of_gt (Nat.lt_of_lt_of_le (Heap.lt_size gP) sz)
    exact ((upd_ne n1).trans (upd_ne n2)).trans (J.hok.fresh sz)
end
/-! ### its body's context, for exceptions whose context is None -/
def lamN (X : Cx) (A : Around) (outer : List PySem.Env) (s : Shared) (H : Hp) (E : XK) (sc : Scope) (f c' : Addr) : Cx :=
  (LamX.lamCx X A outer s H E sc f c').wish fun e s' => wpAny (model X.prog X.w) (A.deeper (LamX.lamEnv X sc s.heap.objs.size f c')) (leaving (LamX.lamEnv X sc s.heap.objs.size f c') e) (fun _ s2 => L2N.CX X.prog X.w outer H s E e s2) (fun e' s2 => L2N.CX X.prog X.w outer H s E e' s2) s'
section
variable {T : Gam} {ca : XC → Addr} {X : Cx} {pins : List (Addr × Obj)} {σ : L2.St} {H : Hp} {s : Shared}
theorem lamN_takes {A : Around} {outer : List PySem.Env} {E : XK} {sc : Scope} {f c' : Addr} : L2N.Takes (lamN X A outer s H E sc f c') (fun c d _ H => E c d H) :=
  L2N.takes_of rfl rfl rfl rfl
/-- a(), in the def that got the lambda -/
theorem pe_actN {CXg : CXT} {Eg : XK} {Ng : List Str} {qg : Str} {sg : Scope} {g f c' : Addr} {cdg pm ctv : Value} {ar : Arguments} {b : Expr} {sc : Scope} {k i : Nat} {a : Str} {pn : List (Addr × Obj)} {xe : Value → Shared → Prop} {W : WX} {tb : XK → TE} {p1 p2 : Pos}
    (J : Inv X pins σ H s) (L : LamX.LamS X.env.scope sc) (hf : s.heap.get? f = some (PySem.W.kla_obj "<lambda>" (lq X) ar b sc (cloFrom X.env.cells sc.names []) pm c' ctv)) (hfn : H f = none) (hfr : f ∉ frs X.stack)
    (hbind : bindArgs (PySem.W.kla_fn "<lambda>" (lq X) ar b sc (cloFrom X.env.cells sc.names []) pm (.ref c') ctv) ⟨[], []⟩ = pure [])
    (tk : L2N.Takes ((cxOf CXg X.prog X.w X.K X.mg X.base Ng qg sg g cdg X.A X.stack s H Eg).tr pn xe) W) (hr : Room (k + 1) (X.A.deeper (envOfC qg sg s.heap.objs.size g cdg)))
    (hbody : ∀ (A : Around) (outer : List PySem.Env) (s : Shared) (H : Hp) (E : XK), Room k (A.deeper (LamX.lamEnv X sc s.heap.objs.size f c')) → PE (lamN X A outer s H E sc f c') b (tb E))
    (hN : Ng[i]? = some a) (hv : Vis sg a) (hd : (a == ("__debug__" : Str)) = false := by decide) (hcd : (a == ("__classdict__" : Str)) = false := by decide) :
    PE ((cxOf CXg X.prog X.w X.K X.mg X.base Ng qg sg g cdg X.A X.stack s H Eg).tr pn xe) (.Call (.Name a p1) [] [] p2)
      (fun σZ HZ Q => ∃ E : XK, (∀ cls d H', E cls d H' → W cls d σZ H') ∧ σZ[i]? = some (some (.ref f)) ∧ HZ c' = some (LamX.CodeO c' (lq X)) ∧ tb E σ HZ Q) := by
  refine ⟨fun pinsZ sZ σZ HZ Q IZ ⟨E, hW, hs, hc, ht⟩ => ?_⟩
  refine wpAny_Call_Name_kw (thn ((pe_var (pos := p1) (i := i) hN hv hd hcd).run pinsZ sZ σZ HZ (fun v H1 => v = .ref f ∧ H1 = HZ) IZ ⟨.ref f, hs, rfl, rfl⟩) fun u s1 ⟨v, H1, J1, r1, ev, eH⟩ => ?_)
  subst ev eH
  obtain rfl : u = Value.ref f := r1
  have getf := J1.base.keep f _ hf hfn hfr (fun z => nomatch (show f ∈ ([] : List Addr) from z))
  obtain ⟨⟨oc, vs, t, hoc, hdc, hvc⟩, _, _⟩ := J1.hok c' _ hc
  refine PySem.W.callWith_F0 ⟨_, _, _, _, getf⟩ ?_
  have un : Un (frs X.stack) [] H H1 s.heap s1.heap := J1.base
  have rc : codeAny (model X.prog X.w) (X.A.deeper (envOfC qg sg s.heap.objs.size g cdg)) (.call (.ref f) ⟨[], []⟩) (CR (L2N.CX X.prog X.w) (envOfC qg sg s.heap.objs.size g cdg :: X.stack) X.prog X.w H1 s1 Q E) s1 := by
    refine PySem.W.kla_callFunE hr.depth getf rfl L.co L.gen rfl ⟨c', oc, vs, t, rfl, hoc, hdc, hvc⟩ ?_
    rw [hbind]
    refine wpAny_pure (wpAny_newFunctionEnv (fun y hy => (L.own y hy).2) (fun y hy => absurd hy (by simp)) (fun h₁ hns sb => ⟨J1.nolimit.fresh _ sb, ?_⟩) L.kind)
    have kp : ∀ b o, s1.heap.get? b = some o → h₁.get? b = some o := fun b o e => sb.extBut b o (Nat.ne_of_lt (Heap.lt_size e)) (Heap.get?_push_of_some _ e)
    have J2 := LamX.lam_start2 (E := E) (f := f) (c' := c') (tk := s1.toks + ([] : List (Str × Value)).length) J L J1.env0 hr.hd un hns kp
    have J3 := J2.wish fun e s' => wpAny (model X.prog X.w) ((X.A.deeper (envOfC qg sg s.heap.objs.size g cdg)).deeper (LamX.lamEnv X sc s1.heap.objs.size f c')) (leaving (LamX.lamEnv X sc s1.heap.objs.size f c') e) (fun _ s2 => L2N.CX X.prog X.w (envOfC qg sg s.heap.objs.size g cdg :: X.stack) H1 s1 E e s2) (fun e' s2 => L2N.CX X.prog X.w (envOfC qg sg s.heap.objs.size g cdg :: X.stack) H1 s1 E e' s2) s'
    refine PySem.W.kla_codeExpr (wpAny_mono ((hbody _ _ s1 H1 E (hr.deeper _)).run [] _ _ H1 Q J3 ht) (fun v s' ⟨w', H', J', rv, q⟩ => ?_) fun e s' hq => hq)
    exact ⟨w', H', J'.os, J'.bare, J'.base, J'.hok, rv, q⟩
  refine wpAny_call (codeAny_mono rc fun r s' hq => ?_)
  match r, hq with
  | .error e, hq => exact tk e s' (L2N.XE.of_call J1 (fun cls d H' h => hW cls d H' h) hq)
  | .ok (.ret u), hq => exact J1.after hq
end
end IL
namespace IL
open PySem PySem.Spec PyProof.Rows L2
/-! ### the refusals' names, told of the exception that is handled -/
def refused (nm : XC → Str) (c : XC) : D := .tuple [.str "refused", .str (nm c)]
/-- the word of an exception: a def called within the suite, with the exception that is handled -/
structure FnW (cs : List XC) (T : Gam) (ca : XC → Addr) (nm : XC → Str) (P : Program) (w : World) (K : PySem.W.Frag) (mg : Str → Option Value) (base : Heap) (k : Nat) (f : Addr) (fd : FuncData) (ps : List Str) : Prop where
  run : ∀ (CX : CXT) (A : Around) (outer : List PySem.Env) (s : Shared) (H : Hp) (args : Args) (Q : VK) (E : XK) (p : Addr × Obj) (c : XC) (S : List Addr), L2H.RoomH k A → L2H.Hot1 A p → L2H.PinOk outer H s p → Env0 P w K mg base A outer s H → BindsTo s fd args (ps.zip [.ref p.1]) →
    p.2.cls = .ref (ca c) → p.2.dict = none → c ∈ cs → Live T S H → (∀ v H', Pe T H H' → Rp K (hide S H') v (refused nm c) → Q v H') → codeAny (model P w) A (.call (.ref f) args) (CR CX outer P w H s Q E) s
section
variable {cs : List XC} {T : Gam} {ca : XC → Addr} {nm : XC → Str} {X : Cx} {k : Nat} {f : Addr} {fd : FuncData} {ps : List Str}
/-- x(e) in the suite, e the name of what is handled -/
theorem pe_word {i : Nat} {x y : Str} {q q2 pos : Pos} {a : Addr} {oe : Obj} {pn : List (Addr × Obj)} {cls : Value} {d : Option Addr} (F : FnW cs T ca nm X.prog X.w X.K X.mg X.base k f fd ps) (hps : ps.length = 1) (hr : L2H.RoomH k X.A) (hz : L2N.Zn cls d oe) (hvs : ∃ vs, oe.data = .fields vs)
    (hg : Gl X x) (hm : X.mg x = some (.ref f)) (hk : PySem.W.keepIn X.K (.ref f) = true) (hb : Binds X.K fd ps []) (hN : X.N[i]? = some y) (hv : Vis X.env.scope y) (hdb : (x == ("__debug__" : Str)) = false) (hd : (y == ("__debug__" : Str)) = false) (hcd : (y == ("__classdict__" : Str)) = false)
    (he : starEach [.Name y q2] X.env = (false, eval (.Name y q2) X.env) :: starEach [] X.env) (hpl : (backTo pos (starEach [] X.env)).any (·.1) = false) :
    PE (X.suite a ((a, oe) :: pn)) (.Call (.Name x q) [.Name y q2] [] pos) fun σ H Q => σ[i]? = some (some (.ref a)) ∧ ∃ c S, cls = .ref (ca c) ∧ d = none ∧ c ∈ cs ∧ Live T S H ∧ ∀ v H', Pe T H H' → Rp X.K (hide S H') v (refused nm c) → Q v H' := by
  refine ⟨fun pins s σ H Q I ⟨hi, c, S, e1, e2, hcs, lv, hQ⟩ => ?_⟩
  subst e1 e2
  refine wpAny_Call_Name_kw (ld_glob I hg hm ?_ hdb)
  have va : PA (X.suite a ((a, oe) :: pn)) [.Name y q2] (tCons (tVar i) tNil) := pa_cons (pe_var hN hv hd hcd) pa_nil he
  refine PySem.W.callWith_K (h₀ := X.base) I.ok.mod.kin hk (thn (va.run pos pins s σ H (fun vs H1 => vs = [.ref a] ∧ H1 = H) I ⟨_, hi, rfl, rfl⟩) fun us s1 ⟨vs, H1, I1, r1, ev, eH⟩ => ⟨I1.kIn, ?_⟩) he hpl
  subst ev eH
  have eu : us = [.ref a] := by
    cases r1 with
    | cons ru rn =>
      cases rn
      cases ru
      rfl
  subst eu
  obtain ⟨z1, z2, z3⟩ := hz
  obtain ⟨vs, hvs⟩ := hvs
  have hot : L2H.Hot1 (X.suite a ((a, oe) :: pn)).A (a, oe) := ⟨rfl, vs, hvs, z3 vs hvs⟩
  have P1 := I1.pin (a, oe) (List.mem_append_left _ List.mem_cons_self)
  have pk : L2H.PinOk X.stack H1 s1 (a, oe) := ⟨P1.1, P1.2.1, fun hm => (List.mem_cons.mp (I1.stkSub a hm)).elim P1.2.2.1 P1.2.2.2.1, P1.2.2.2.2⟩
  have b := hb s1 [.ref a] I1.kIn (by rw [List.append_nil, hps]; rfl)
  rw [List.append_nil] at b
  refine wpAny_call (codeAny_mono (F.run C8.CX0 (X.suite a ((a, oe) :: pn)).A X.stack s1 H1 ⟨[.ref a], []⟩ Q C8.E0 (a, oe) c S ⟨hr.dp, hr.un⟩ hot pk I1.env0 b z1 z2 hcs lv hQ) fun r s' hq => ?_)
  match r, hq with
  | .error e, hq => exact (show False from hq).elim
  | .ok (.ret u), hq => exact I1.after hq
def mTold (cs : List XC) (nm : XC → Str) (m : Ev) : Ev := fun env => match m env with
  | .ok d => .ok d
  | .exc c => if c ∈ cs then .ok (refused nm c) else .stuck
  | .stuck => .stuck
/-- the def that calls a lambda and tells the refusal's word -/
structure Told (cs : List XC) (T : Gam) (ca : XC → Addr) (nm : XC → Str) (P : Program) (w : World) (K : PySem.W.Frag) (mg : Str → Option Value) (base : Heap) (k : Nat) (x le wd : Str) (st : Stmt) (Ng : List Str) (a y : Str) : Prop where
  F : ∃ g fd, L2.Fun K x x st g fd ∧ mg x = some (.ref g) ∧ Binds K fd [a] []
  S : FnScope Ng [a] (defScope st)
  N : Ng = [a, y]
  va : Vis (defScope st) a
  ky : (defScope st).names.lookup y = some .local
  kle : (defScope st).names.lookup le = some .globalImplicit
  kwd : (defScope st).names.lookup wd = some .globalImplicit
  body : ∃ p1 p2 p3 p4 p5 p6 p7 p8 p9 p10, defBody st = [.Try [.Return (some (.Call (.Name a p1) [] [] p2)) p3] [.ExceptHandler (some (.Name le p4)) (some y) [.Return (some (.Call (.Name wd p5) [.Name y p6] [] p7)) p8] p9] [] [] p10]
  dbg : (x == ("__debug__" : Str)) = false ∧ (le == ("__debug__" : Str)) = false ∧ (wd == ("__debug__" : Str)) = false ∧ (a == ("__debug__" : Str)) = false ∧ (y == ("__debug__" : Str)) = false
  cld : (a == ("__classdict__" : Str)) = false ∧ (y == ("__classdict__" : Str)) = false
  gle : ∃ CS, mg le = some (.ref CS) ∧ ∀ c ∈ cs, PySem.W.exmOne K (.ref (ca c)) (.ref CS) = some true
  W : ∃ g fd ps, FnW cs T ca nm P w K mg base k g fd ps ∧ ps.length = 1 ∧ mg wd = some (.ref g) ∧ PySem.W.keepIn K (.ref g) = true ∧ Binds K fd ps []
/-- x(lambda: b) -/
theorem ie_told {W : WX} {c P : Addr} {j : Nat} {x le wd a y : Str} {st : Stmt} {Ng : List Str} {ar : Arguments} {b : Expr} {sc : Scope} {m : Ev} {p lp pos : Pos} (D : Told cs T ca nm X.prog X.w X.K X.mg X.base k x le wd st Ng a y) (B : LamX.TabB X.base X.mg c P) (hcode : X.env.code = .ref c)
    (hin : (P, lq X) ∈ T.tabs) (hone : ∀ p ∈ T.tabs, p.1 = P → p.2 = lq X) (hr : Room (j + 2) X.A) (hkj : k ≤ j + 1) (hcl : LamX.lamSB X.env.scope sc = true) (hdef : defaultsOf ar X.env = ([], []))
    (hbind : ∀ (q : Str) (cl : List (Str × Addr)) (pm cv ctv : Value), bindArgs (PySem.W.kla_fn "<lambda>" q ar b sc cl pm cv ctv) ⟨[], []⟩ = pure [])
    (hbody : ∀ (A : Around) (outer : List PySem.Env) (s : Shared) (H : Hp) (E : XK) (f c' : Addr), Room j (A.deeper (LamX.lamEnv X sc s.heap.objs.size f c')) → IE T ca (lamN X A outer s H E sc f c') (fun c d _ H => E c d H) b m) (hg : Gl X x) :
    IE T ca X W (.Call (.Name x p) [.Lambda ar b sc lp] [] pos) (mTold cs nm m) := by
  have L := LamX.lamS_by hcl
  obtain ⟨g, fd, F, hm, hb⟩ := D.F
  obtain ⟨oc, od, kV, doc, pm0, an, cdv, ct, osl, rfl, lk, hcg⟩ := F.ex
  obtain ⟨p1, p2, p3, p4, p5, p6, p7, p8, p9, p10, eb⟩ := D.body
  obtain ⟨CS, hle, hex⟩ := D.gle
  obtain ⟨gw, fw, psw, FW, hps, hmw, hkw, hbw⟩ := D.W
  obtain ⟨db1, db2, db3, db4, db5⟩ := D.dbg
  have hNg := D.N
  refine ⟨⟨fun pins s σ H Q I ⟨S, env, lv, rel, fin⟩ => ?_⟩⟩
  refine wpAny_Call_Name_kw (ld_glob I hg hm ?_ db1)
  refine PySem.W.callWith_K (h₀ := X.base) I.ok.mod.kin F.kp ?_ (by rfl) (by rfl)
  refine Calls.spliced_cons (lam_new I B hcode hin hone lv.tb hdef (L.has I.ok) fun f c' pm ctv H1 s' I1 pe hf hfn hfr hco => ?_)
  refine Calls.spliced_nil ⟨I1.kIn, ?_⟩
  have lv1 := lv.le pe
  have rel1 := rel.le pe
  have fin1 : Fin T ca (Rv X.K S) W σ H1 (mTold cs nm m env) Q := fin.le pe
  have rc : codeAny (model X.prog X.w) X.A (.call (.ref g) ⟨[.ref f], []⟩) (CR C8.CX0 X.stack X.prog X.w H1 s' Q C8.E0) s' := by
    refine LamX.run_ofS (N := Ng) (ps := [a]) (us := [.ref f]) (vs := [.ref f]) lk hcg D.S hr I1.env0 (hb s' [.ref f] I1.kIn rfl) (.cons rfl .nil) rfl fun hr' => ?_
    subst hNg
    have tk0 : L2N.Takes (cxOf C8.CX0 X.prog X.w X.K X.mg X.base [a, y] x (defScope st) g cdv X.A X.stack s' H1 C8.E0) (fun _ _ _ _ => False) := fun u s2 ⟨_, _, _, _, _, _, _, _, _, _, _, _, _, _, _, _, z⟩ => z.elim
    rw [eb]
    refine ⟨_, pss_one (L2N.ps_try_as (i := 1) (n := y) (c := .ref CS) rfl rfl D.S.nd rfl D.ky ⟨D.kle, db2, .inl hle⟩ tk0
      (fun W pn xe tk _ => pss_one (ps_ret (pe_actN (i := 0) (tb := fun E => tI T ca X.K (fun c d _ H => E c d H) m) I1 L hf hfn hfr (hbind _ _ _ _ _) tk hr' (fun A outer s H E hr2 => (hbody A outer s H E f c' hr2).pe) rfl D.va db4 D.cld.1)))
      (fun a' oe cls d pn hz hv => pss_one (ps_ret (pe_word (X := cxOf C8.CX0 X.prog X.w X.K X.mg X.base [a, y] x (defScope st) g cdv X.A X.stack s' H1 C8.E0) (i := 1) FW hps (L2H.RoomH.mono (L2H.roomH_of hr') hkj) hz hv D.kwd hmw hkw hbw rfl (.inl D.ky) db3 db5 D.cld.2 (by rfl) (by rfl))))), ?_⟩
    refine ⟨fun cls d H' => ∃ c S, cls = .ref (ca c) ∧ d = none ∧ c ∈ cs ∧ Live T S H' ∧ ∀ v H2, Pe T H' H2 → Rp X.K (hide S H2) v (refused nm c) → Q v H2, fun cls d H' ⟨c, S, e1, e2, hcs, lv', hq⟩ => ⟨true, by rw [e1]; exact hex c hcs, fun _ a' _ => ⟨rfl, c, S, e1, e2, hcs, lv', hq⟩, fun z => by cases z⟩, rfl, hco, S, env, lv1, rel1, ?_⟩
    unfold mTold at fin1
    cases hm : m env with
    | ok d => rw [hm] at fin1; exact fin1
    | exc c =>
      rw [hm] at fin1
      dsimp only at fin1
      split at fin1
      · rename_i hcs
        exact fun H' p' => ⟨c, S, rfl, rfl, hcs, lv1.le p', fun v H2 p2 r => fin1 v H2 (p'.trans p2) r⟩
      · exact fin1.elim
    | stuck => rw [hm] at fin1; exact fin1
  refine wpAny_call (codeAny_mono rc fun r s2 hq => ?_)
  match r, hq with
  | .error e, hq => exact (show False from hq).elim
  | .ok (.ret u), hq => exact I1.after hq
end
end IL
namespace IL
open PySem PySem.Spec PyProof.Rows L2
abbrev St := L2.St
/-! ### while an exception is handled: a list is walked to its end, summed -/
section
variable {prog : Program} {w : World} {A : Around} {E : Value → Shared → Prop} {s : Shared}
theorem list_end_hot {it l x1 : Addr} {i : Nat} {items : Array Value} {Q : Option Value → Shared → Prop} (hot : HotX.HotAt A x1 s.heap) (hit : s.heap.IsListIter it l i) (hl : s.heap.IsList l items) (hx : items[i]? = none) (ne : x1 ≠ it)
    (hQ : ∀ h', Heap.ExtBut it s.heap h' → Q none { s with heap := h' }) : wpAny (model prog w) A (pyNext (.ref it)) Q E s := by
  obtain ⟨hh, o1, vs1, g1, d1, c1⟩ := hot
  obtain ⟨ob, hob, hcl, hdt⟩ := id hit
  obtain ⟨ol, hol, _, nl, hdl⟩ := hl
  unfold pyNext
  refine wpAny_bind (wpAny_attempt (wpAny_callSpecial?_slot (name := Str.ofString "__next__") hit.typeIs slot_listiter_next (wpAny_call_entry slot_listiter_next hit.typeIs entry_listiter_next ?_ (args_listiter_next _))))
  show wpAny _ _ (field (.ref it) 0 >>= _) _ _ s
  refine wpAny_bind (wpAny_field hob hdt (x := .ref l) rfl ?_)
  show wpAny _ _ (if (Value.ref l == Value.none) = true then _ else _) _ _ s
  rw [if_neg (by exact Bool.false_ne_true : ¬ ((Value.ref l == Value.none) = true))]
  show wpAny _ _ (field (.ref it) 1 >>= _) _ _ s
  refine wpAny_bind (wpAny_field hob hdt (x := .int i 0) rfl ?_)
  show wpAny _ _ (seqItems? (.ref l) >>= _) _ _ s
  refine wpAny_bind (wpAny_seqItems hol hdl ?_)
  simp only [Int.toNat_natCast, hx]
  have g2 : ∀ f, (s.heap.update it f).get? x1 = some o1 := fun f => (Heap.get?_update_other _ _ (fun z => ne z.symm)).trans g1
  refine wpAny_bind (wpAny_rule (wpAny_bind (wpAny_setField hob hdt (by simp) ?_)))
  show wpAny _ _ (newExc (.type "StopIteration") [] >>= _) _ _ _
  refine wpAny_bind ?_
  simp only [newExc, newTuple]
  refine wpAny_bind (wpAny_newObj_type ?_ (by size_fits))
  refine wpAny_bind (m := firstArgMember _ _) (wpAny_of_eq (a := Value.none) (by first | rfl | (simp only [firstArgMember]; rfl)) ?_)
  refine wpAny_newObj_type ?_ (by size_fits)
  refine HotX.raiseNew_hot ⟨hh, o1, vs1, Heap.get?_push_of_some _ (Heap.get?_push_of_some _ (g2 _)), d1, c1⟩ (Nat.ne_of_lt (Heap.lt_size (Heap.get?_push_of_some _ (g2 _)))) (Heap.get?_push_size _ rfl) rfl (by first | (simp; done) | (simp; omega) | (simp only [Array.size_append]; simp; omega)) ?_
  refine wpAny_bind (wpAny_isInstance (T := "StopIteration") (b := true) ⟨_, Heap.get?_update_self _ (Heap.get?_push_size _ rfl) rfl, rfl⟩ isSubtype_stop ?_)
  refine wpAny_pure (hQ _ fun b o hb e => ?_)
  rw [Heap.get?_update_other _ _ (Nat.ne_of_gt (Heap.lt_size (Heap.get?_push_of_some _ ((Heap.SameBut.update ..).extBut b o hb e))))]
  exact Heap.get?_push_of_some _ (Heap.get?_push_of_some _ ((Heap.SameBut.update ..).extBut b o hb e))
end
section
variable {X : Cx}
theorem turn_listH {P : Program} {w : World} {K : PySem.W.Frag} {tg : Expr} (a it : Addr) : L2H.TurnH P w K tg (Itl K a) [it] it (fun i h => h.IsListIter it a i) where
  mem := by simp
  obj := fun i h st b hb => by
    obtain rfl : b = it := by simpa using hb
    obtain ⟨o, e, c, d⟩ := st
    exact ⟨o, e, fun v z => by rw [d] at z; cases z⟩
  keep := fun i h h' st k => st.at fun o e => k it (by simp) o e
  item := by
    rintro X rfl rfl rfl hc i pins s σ H E J hf st ⟨xs, x, hq, hx⟩
    obtain ⟨its, rv, p, hz⟩ := J.list hq
    obtain ⟨u, hu, ru⟩ := rv.get hx
    obtain ⟨f0, f1, f2, f3, f4, f5⟩ := hf it (by simp)
    refine wpAny_pyNext_list_item st p.isList (x := u) (by simpa using hu) fun h' st' sb => ?_
    have J1 : Inv X pins σ H { s with heap := h' } := J.turned (t' := s.toks) (fun b o hb e => (sb.2 b hb).trans e) f0 f1 f3 f4 f5
    obtain ⟨o, e, c, d⟩ := id st'
    exact ⟨u, rfl, go_of (s := { s with heap := h' }) e c d (by decide) ⟨x, H, J1, ru, ⟨rfl, fun ys hy => by rw [J.list_inj hy hq]; exact hx⟩, st', fun b hb => (hf b hb).1⟩⟩
  done := by
    rintro X rfl rfl rfl hc i pins s σ H E J hf st ⟨xs, hq, hx⟩
    obtain ⟨its, rv, p, hz⟩ := J.list hq
    obtain ⟨f0, f1, f2, f3, f4, f5⟩ := hf it (by simp)
    have hl := rv.length
    obtain ⟨y, ⟨hh, v1, e1, c1⟩, hy⟩ := hc
    have P1 := J.pin y (List.mem_append_left _ hy)
    exact list_end_hot ⟨hh, y.2, v1, P1.1, e1, c1⟩ st p.isList (by simp; omega) (f5 y (List.mem_append_left _ hy)) fun h' eb => ⟨rfl, J.turned (t' := s.toks) (fun b o hb e => eb b o hb e) f0 f1 f3 f4 f5⟩
  self := fun _ _ _ _ _ st h => wpAny_pyIter_listiter st h
theorem pi_listH {tg l : Expr} {tl : TE} (hl : PE X l tl) : L2H.PIH X tg l (iList X.K tl) := by
  refine ⟨fun pins s σ H R J h => ?_⟩
  refine thn (hl.run pins s σ H _ J h) fun v s1 ⟨x, H1, J1, r1, a, e, ⟨xs, hq⟩, q⟩ => ?_
  subst e
  cases r1
  obtain ⟨its, rv, p, hz⟩ := J1.list hq
  refine wpAny_pyIter_list p.isList ⟨s1.heap.objs.size, [s1.heap.objs.size], _, _, H1, rfl, J1.kept (t' := s1.toks) fun b o e => Heap.get?_push_of_some _ e, turn_listH a _, ⟨_, Heap.get?_push_size _ rfl, rfl, rfl⟩, fun b hb => ?_, q⟩
  obtain rfl : b = s1.heap.objs.size := by simpa using hb
  exact J1.fpOk (Nat.le_refl _) (J1.hok.fresh (Nat.le_refl _))
theorem lc_hot {pins : List (Addr × Obj)} {s : Shared} {σ : St} {H : Hp} {Q : VK} {elt tg iter : Expr} {ifs : List Expr} {scope : Scope} {own : List (Str × Nat)} {pos pos' : Pos} {wi : TI} {g : TG} {tt : TT} {te : TE} {use : Option (Value → Sem Unit)} {Qf : Value → Shared → Prop}
    {p : Addr × Obj} (hp : p ∈ X.pn) (hot : L2H.Hot1 X.A p) (hN : X.N.Nodup) (Y : Inv X pins σ H s) (hi : L2H.PIH X tg iter wi) (ok : BlkOk X.N X.env.scope scope own)
    (hg : ∀ (s : Shared) (H : Hp) (C : Addr) (cl : List (Str × Addr)) (fp : List Addr), PG (X.blk s H scope (compEnvC scope cl C X.env) fp) tg g) (ht : ∀ (s : Shared) (H : Hp) (C : Addr) (cl : List (Str × Addr)) (fp : List Addr), PTs (X.blk s H scope (compEnvC scope cl C X.env) fp) ifs tt)
    (he : ∀ (s : Shared) (H : Hp) (C : Addr) (cl : List (Str × Addr)) (fp : List Addr), PE (X.blk s H scope (compEnvC scope cl C X.env) fp) elt te) (hs : ∀ x, foldedSetIterable iter X.env x = pure x)
    (h : tLc wi g tt te (own.map (·.2)) σ H Q)
    (fin_ : ∀ D C s' m H', Inv X pins σ H' s' → Q (.ref D) H' → s'.heap.Ns C m → FpOk X pins H' C → compPost (model X.prog X.w) X.A X.xe use Qf (.ref D) C (.ok .next) s') :
    wpAny (model X.prog X.w) X.A (comprehension (.ListComp elt [⟨tg, iter, ifs, 0⟩] scope pos) scope X.env pos' (newList []) false (eval iter X.env) use) Qf X.xe s := by
  have frs_ : ∀ y ∈ scope.names, y.2 = .free → ∃ c, X.env.cells.lookup y.1 = some c := fun y hy e => by
    rcases ok.free y hy e with k | k
    · exact Y.ok.has _ (.inl k)
    · exact Y.ok.has _ (.inr k)
  refine wpAny_comprehension_free (use := use) rfl hs (closure_ok frs_) ok.kind (fun y hy e => by rw [ok.uniq y hy, e])
    (thn (hi.run pins s σ H _ Y h) fun xv u1 hx => thn hx fun itv u2 h2 => ?_)
  obtain ⟨it, fp, tn, J, G2, e, Y2, T, tn2, o2, q⟩ := h2
  subst e
  refine wpAny_newObj_type (newEnv_comp ?_) (by show 0 ≤ sizeLine; decide)
  generalize eD : u2.heap.objs.size = D
  have nD : G2 D = none := Y2.hok.fresh (Nat.le_of_eq eD)
  obtain ⟨W, ⟨k0, v0⟩, trn⟩ := q D nD
  -- the new list
  generalize eS3 : ({ u2 with heap := u2.heap.push { cls := .type "list", data := .seq ([] : List Value).toArray } } : Shared) = u3
  have Y3 : Inv X pins σ (upd G2 D (.lst [])) u3 := by
    rw [← eS3]
    refine Y2.laid (t' := u2.toks) (fun b o e => Heap.get?_push_of_some _ e) (Nat.le_of_eq eD) ⟨Nat.zero_le _, [], 0, .nil, ?_⟩
    rw [← eD]
    exact Heap.get?_push_size _ rfl
  have h3 : u3.heap = u2.heap.push { cls := .type "list", data := .seq ([] : List Value).toArray } := by rw [← eS3]
  have sz : ∀ b ∈ fp, b < u2.heap.objs.size := fun b hb => by
    obtain ⟨o, e, _⟩ := T.obj _ _ tn2 b hb
    exact Heap.lt_size e
  have o3 : ∀ b ∈ fp, FpOk X pins (upd G2 D (.lst [])) b ∧ b < u3.heap.objs.size := fun b hb => by
    have hlt := sz b hb
    refine ⟨⟨?_, (o2 b hb).2⟩, by rw [h3, Heap.size_push]; exact Nat.lt_succ_of_lt hlt⟩
    rw [upd_ne (by rw [← eD]; exact Nat.ne_of_lt hlt)]
    exact (o2 b hb).1
  have tn3 : tn 0 u3.heap := T.keep _ _ _ tn2 fun b _ o e => by rw [h3]; exact Heap.get?_push_of_some _ e
  have Y4 := (block_start Y3 ok hN o3).pins_of (pins' := [p]) fun z hz => by
    have ez : z = p := by simpa using hz
    subst ez
    obtain ⟨b1, b2, b3, b4, b5⟩ := Y3.pin z (List.mem_append_left _ hp)
    have lt3 := Heap.lt_size b1
    refine ⟨pushCells_keeps _ _ _ _ (Heap.get?_push_of_some _ b1), b2, Nat.ne_of_lt lt3, fun hm => ?_, b5⟩
    rcases List.mem_cons.mp (Y3.stkSub _ hm) with e | e
    · exact b3 e
    · exact b4 e
  have pg := hg u3 (upd G2 D (.lst [])) u3.heap.objs.size (cellsFrom (u3.heap.objs.size + 1) scope.names (cloFrom X.env.cells scope.names [])) fp
  have pt := ht u3 (upd G2 D (.lst [])) u3.heap.objs.size (cellsFrom (u3.heap.objs.size + 1) scope.names (cloFrom X.env.cells scope.names [])) fp
  have pe := he u3 (upd G2 D (.lst [])) u3.heap.objs.size (cellsFrom (u3.heap.objs.size + 1) scope.names (cloFrom X.env.cells scope.names [])) fp
  show codeAny _ _ (.compStart (.ListComp elt [⟨tg, iter, ifs, 0⟩] scope pos) 0 (.ref it) (.ref D) (compEnvC scope (cellsFrom (u3.heap.objs.size + 1) scope.names (cloFrom X.env.cells scope.names [])) u3.heap.objs.size X.env)) (compPost (model X.prog X.w) X.A X.xe use Qf (.ref D) u3.heap.objs.size) { u3 with heap := pushCells (u3.heap.push { cls := .type "dict", data := .dict #[] }) scope.names }
  have fpn : ∀ b ∈ fp, (upd G2 D (.lst [])) b = none := fun b hb => (o3 b hb).1.1
  generalize eCe : compEnvC scope (cellsFrom (u3.heap.objs.size + 1) scope.names (cloFrom X.env.cells scope.names [])) u3.heap.objs.size X.env = ce at Y4 pg pt pe ⊢
  have cL : ce.locals = u3.heap.objs.size := by subst eCe; rfl
  generalize eH3 : upd G2 D (.lst []) = G3 at Y3 Y4 pg pt pe v0 fpn o3
  generalize eS4 : ({ u3 with heap := pushCells (u3.heap.push { cls := .type "dict", data := .dict #[] }) scope.names } : Shared) = u4 at Y4 ⊢
  have tn4 : tn 0 u4.heap := T.keep _ _ _ tn3 fun b _ o e => by rw [← eS4]; exact pushCells_keeps _ _ _ _ (Heap.get?_push_of_some _ e)
  have sta : ∀ {σ' : St} {H' : Hp} {s' : Shared}, Inv (X.blk u3 G3 scope ce fp) [p] σ' H' s' → (∀ b ∈ fp, H' b = none) → ∀ b ∈ fp, FpOk (X.blk u3 G3 scope ce fp) [p] H' b := fun {σ' H' s'} Y' hn b hb =>
    ⟨hn b hb, (Y'.ok.exf b hb).1, Y'.ok.exfs b hb, .inl hb, fun x c e => (Y'.ok.exf b hb).2 x c e, fun z hz => by
      have ez : z = p := by simpa using hz
      rw [ez]
      exact (o3 b hb).1.2.2.2.2.2 p (List.mem_append_left _ hp)⟩
  have lp : codeAny (model X.prog X.w) X.A (.compLoop (.ListComp elt [⟨tg, iter, ifs, 0⟩] scope pos) 0 (.ref it) (.ref D) ce) (compPost (model X.prog X.w) X.A X.xe use Qf (.ref D) u3.heap.objs.size) u4 := by
    refine compLoop_any (fun n s' => ∃ i H', Inv (X.blk u3 G3 scope ce fp) [p] (wipe σ (own.map (·.2))) H' s' ∧ tn i s'.heap ∧ (∀ b ∈ fp, H' b = none) ∧ W i n H') ?_ k0 ⟨0, G3, Y4, tn4, fpn, v0⟩
    rintro n u5 ⟨i, G5, Y5, tn5, n5, w5⟩
    rcases trn i n G5 w5 with ⟨stop, qq⟩ | ⟨go, Nx, hNx, stp⟩
    · have td := T.done ((X.blk u3 G3 scope ce fp).tr [p] fun _ _ => False) rfl rfl rfl ⟨p, hot, List.mem_cons_self⟩ i [] u5 _ G5 (fun _ _ => False) (Y5.toTry _) (sta Y5 n5) tn5 stop
      refine thnF td fun r u6 ⟨hr, Y6⟩ => ?_
      subst hr
      -- back in the def's context
      have Y7 : Inv X pins σ G5 u6 := Y3.call' (ch := fp) Y6.os Y6.base Y6.hok Y6.bare fun b hb => ⟨(o3 b hb).1.2.2.2.1, (o3 b hb).1.2.1, (o3 b hb).1.2.2.2.2.1, (o3 b hb).1.2.2.2.2.2⟩
      have nC : G5 u3.heap.objs.size = none := by
        have z : G5 ce.locals = none := Y6.free
        rw [cL] at z
        exact z
      obtain ⟨m, hn, _⟩ := Y6.loc
      have hn : u6.heap.Ns ce.locals m := hn
      rw [cL] at hn
      exact fin_ D u3.heap.objs.size u6 m G5 Y7 qq hn (Y3.fpOk (Nat.le_refl _) nC)
    · have ti := T.item ((X.blk u3 G3 scope ce fp).tr [p] fun _ _ => False) rfl rfl rfl ⟨p, hot, List.mem_cons_self⟩ i [] u5 _ G5 (fun _ _ => False) (Y5.toTry _) (sta Y5 n5) tn5 go
      refine thnF ti fun r u6 ⟨u, hr, h6⟩ => ?_
      subst hr
      refine thnF h6 fun _ u7 ⟨x, G7, Y7, r7, y7, tn7, n7⟩ => ?_
      have Y7 := Inv.ofTry (X := X.blk u3 G3 scope ce fp) (pins := [p]) Y7 Y5.ok
      have Y7' := Y7.pinned (sta Y7 n7) (T.obj _ _ tn7)
      refine thnF (pg.run _ u7 _ G7 x u _ Y7' r7 (stp x G7 y7)) fun _ u8 ⟨σ8, G8, Y8, hw8, q8⟩ => ?_
      refine thnF (pt.run _ u8 σ8 G8 _ Y8 q8) fun b u9 ⟨G9, Y9, q9⟩ => ?_
      -- the trn's end
      have fin : ∀ {s' : Shared} {H' : Hp}, Inv (X.blk u3 G3 scope ce fp) ([p] ++ pinsAt fp u7.heap) σ8 H' s' → Nx H' → ∃ m, m < n ∧ ∃ i H', Inv (X.blk u3 G3 scope ce fp) [p] (wipe σ (own.map (·.2))) H' s' ∧ tn i s'.heap ∧ (∀ b ∈ fp, H' b = none) ∧ W i m H' := fun {s' H'} Y' nx => by
        obtain ⟨m', hm, w'⟩ := hNx H' nx
        have pin' : ∀ b ∈ fp, ∀ o, u7.heap.get? b = some o → s'.heap.get? b = some o ∧ H' b = none := fun b hb o e =>
          let z := Y'.pin (b, o) (List.mem_append_right _ (List.mem_append_right _ (mem_pinsAt hb e)))
          ⟨z.1, z.2.1⟩
        have hl : (wipe σ (own.map (·.2))).length = σ8.length := by rw [← hw8, wipe_length]
        refine ⟨m', hm, i + 1, H', (Y'.unpinned (pins := [p])).weak hl (fun j v e => ?_), T.keep _ _ _ tn7 fun b hb o e => (pin' b hb o e).1, fun b hb => ?_, w'⟩
        · rw [← hw8] at e
          exact (wipe_some e).1
        · obtain ⟨o, e, _⟩ := T.obj _ _ tn7 b hb
          exact (pin' b hb o e).2
      cases b with
      | false =>
        simp only [Bool.false_eq_true, if_false] at q9 ⊢
        exact fin Y9 q9
      | true =>
        simp only [if_true] at q9 ⊢
        refine thnF (pe.run _ u9 σ8 G9 _ Y9 q9) fun z s10 ⟨yv, H10, I10, r10, acc, hD10, hz10, nx⟩ => ?_
        exact app_ok (X := X.blk u3 G3 scope ce fp) I10 hD10 hz10 r10 fun s11 I11 => fin I11 nx
  exact codeAny_compStart_list lp (T.self X.A 0 _ _ _ tn4 lp)
theorem pe_lcH {elt tg iter : Expr} {ifs : List Expr} {scope : Scope} {own : List (Str × Nat)} {pos : Pos} {wi : TI} {g : TG} {tt : TT} {te : TE} {p : Addr × Obj} (hp : p ∈ X.pn) (hot : L2H.Hot1 X.A p) (hN : X.N.Nodup) (hi : L2H.PIH X tg iter wi) (ok : BlkOk X.N X.env.scope scope own)
    (hg : ∀ (s : Shared) (H : Hp) (C : Addr) (cl : List (Str × Addr)) (fp : List Addr), PG (X.blk s H scope (compEnvC scope cl C X.env) fp) tg g) (ht : ∀ (s : Shared) (H : Hp) (C : Addr) (cl : List (Str × Addr)) (fp : List Addr), PTs (X.blk s H scope (compEnvC scope cl C X.env) fp) ifs tt)
    (he : ∀ (s : Shared) (H : Hp) (C : Addr) (cl : List (Str × Addr)) (fp : List Addr), PE (X.blk s H scope (compEnvC scope cl C X.env) fp) elt te) (hs : ∀ x, foldedSetIterable iter X.env x = pure x := by intro _; rfl) :
    PE X (.ListComp elt [⟨tg, iter, ifs, 0⟩] scope pos) (tLc wi g tt te (own.map (·.2))) := by
  refine ⟨fun pins s σ H Q J h => ?_⟩
  rw [eval_ListComp]
  refine lc_hot hp hot hN J hi ok hg ht he hs h fun D C s' m H' J' q hn f => ⟨m, hn, fun h'' sb => ?_⟩
  obtain ⟨f0, f1, f2, f3, f4, f5⟩ := f
  exact ⟨.ref D, H', J'.turned (t' := s'.toks) (fun b o hb e => (sb.2 b hb).trans e) f0 f1 f3 f4 f5, rfl, q⟩
/-- a list's walk, the handled exception standing by -/
theorem walks_hot {prog : Program} {w : World} {A : Around} {x1 : Addr} {o1 : Obj} {vs1 : Array Value} (hh : A.handled = some (.ref x1)) (d1 : o1.data = .fields vs1) (c1 : vs1[2]? = some .none) (I ax : Addr) (hne : ax ≠ I) (h1 : x1 ≠ I) (items : Array Value) :
    PySem.Walks prog w A I [I, ax, x1] [I] items.size (fun i v => items[i]? = some v) (fun i h => h.IsListIter I ax i ∧ h.IsList ax items ∧ h.get? x1 = some o1) where
  sub := fun b hb => by simp at hb; simp [hb]
  frame := fun _ _ _ st hk => ⟨st.1.at fun o e => hk I (by simp) o e, st.2.1.at fun o e => hk ax (by simp) o e, hk x1 (by simp) _ st.2.2⟩
  item := fun i s Q E hi st hQ => wpAny_pyNext_list_item st.1 st.2.1 (x := items[i]) (by simp [hi]) fun h' hit' hs' =>
    hQ _ h' s.toks (by simp [hi]) ⟨hit', st.2.1.extBut hs'.extBut hne, hs'.extBut _ _ h1 st.2.2⟩ fun b o hb e => hs'.extBut b o (fun h => hb (by simp [h])) e
  done := fun s Q E st hQ => list_end_hot ⟨hh, o1, vs1, st.2.2, d1, c1⟩ st.1 st.2.1 (by simp) h1 fun h' he' => hQ h' s.toks fun b o hb e => he' b o (fun h => hb (by simp [h])) e
  self := fun _ _ _ _ st hQ => wpAny_pyIter_listiter st.1 hQ
theorem cr_sumH (hc : L2H.HotC X) : CallR X (.builtin "sum") (rSum X.K) := by
  rintro pins s σ H vs us Q J r ⟨a, ns, rfl, hs, q⟩
  obtain ⟨its, rv, hl, _⟩ := J.list hs
  obtain ⟨y, ⟨hh, v1, e1, c1⟩, hy⟩ := hc
  have P1 := J.pin y (List.mem_append_left _ hy)
  have hi := rv.ints
  rw [Vals.ref1 r]
  obtain ⟨xs, e⟩ := hi.allInts.items
  have hn : numsOf (intItems xs).toList = ns := by rw [← e]; exact hi.numsOf
  rw [nums_intItems] at hn
  have hl' := hl.isList
  rw [e] at hl'
  refine call_sum_walkG (wpAny_pyIter_list hl' ?_)
  have na : a ≠ s.heap.objs.size := Nat.ne_of_lt (by obtain ⟨o, ho, _⟩ := hl'; exact Heap.lt_size ho)
  have ny : y.1 ≠ s.heap.objs.size := Nat.ne_of_lt (Heap.lt_size P1.1)
  refine ⟨_, _, _, _, _, _, numAt xs, rfl, walks_hot (A := X.A.in1) hh e1 c1 s.heap.objs.size a na ny (intItems xs), ⟨⟨_, Heap.get?_push_size _ rfl, rfl, rfl⟩, hl'.push _, Heap.get?_push_of_some _ P1.1⟩, fun b hb => ?_, (fun _ _ => intItems_at), fun h' tk t' hk => ?_⟩
  · show b < (s.heap.push _).objs.size
    rw [Heap.size_push]
    simp only [List.mem_cons, List.not_mem_nil, or_false] at hb
    rcases hb with rfl | rfl | rfl
    · exact Nat.lt_succ_self _
    · exact Nat.lt_succ_of_lt (by obtain ⟨o, ho, _⟩ := hl'; exact Heap.lt_size ho)
    · exact Nat.lt_succ_of_lt (Heap.lt_size P1.1)
  · have e3 : preSum (numAt xs) (intItems xs).size = ns.sum := by
      rw [show (intItems xs).size = xs.size by simp [intItems], preSum_eq, List.take_of_length_le (by simp), hn]
    rw [e3]
    refine ⟨.int _, H, J.kept (t' := tk) fun b o e => hk b o (fun hm => ?_) (Heap.get?_push_of_some _ e), ⟨_, rfl⟩, q⟩
    have lt := Heap.lt_size e
    rw [show b = s.heap.objs.size by simpa using hm] at lt
    exact Nat.lt_irrefl _ lt
/-- isinstance(e, c), e what is handled -/
theorem call_isH {D : Addr} {p : Addr × Obj} (hp : p ∈ X.pn) (C : ExcC X.K D) (hz : Zc (.ref D) none p.2) (hf : ∃ vs, p.2.data = .fields vs) : CallR X (.builtin "isinstance") (rIsE X.K D p.1) := by
  rintro pins s σ H xs us Q J r ⟨c, cv, b, rfl, hcv, e, q⟩
  cases r with
  | cons rx rr =>
    cases rr with
    | cons rt rr =>
      cases rr
      cases rx
      obtain rfl := hcv _ rt
      have P1 := (J.pin p (List.mem_append_left _ hp)).1
      obtain ⟨pa, po⟩ := p
      obtain ⟨vs, hv⟩ := hf
      have J1 : PySem.W.InstAt s.heap pa po D none := by
        obtain ⟨oc, od, oda, osl⟩ := po
        obtain ⟨h1, h2⟩ := hz
        dsimp only at h1 h2 hv P1
        subst h1 h2 hv
        exact ⟨P1, rfl, rfl, trivial⟩
      exact PySem.W.kia_one (PySem.W.handS_kitx_exc C.hg C.hk C.hs C.hd C.ha C.hn C.ht C.hm) J.kIn J1 e (fun z => nomatch z) fun tk => ⟨.bl b, H, J.kept (t' := tk) fun _ _ z => z, rfl, q⟩
end
end IL
namespace IL
open PySem PySem.Spec PyProof.Rows L2
abbrev rIntB : List V → Hp → VK → Prop := fun xs H Q => (∃ i, xs = [.int i] ∧ Q (.int i) H) ∨ ∃ k, xs = [.bl k] ∧ Q (.int (if k then 1 else 0)) H
def flagI (b : Bool) : V := .int (if b then 1 else 0)
section
variable {K : PySem.W.Frag} {X : Cx}
theorem sq_upd {H : Hp} {a p : Addr} {xs : List V} {o : HO} (h : SqL K H a xs) (n : H p = none) : SqL K (upd H p o) a xs := by
  rcases h with (h | ⟨ob, h⟩) | h
  · exact .inl (.inl ((upd_ne (ne_of_none h n)).trans h))
  · exact .inl (.inr ⟨ob, (upd_ne (ne_of_none h n)).trans h⟩)
  · exact .inr h
/-- [int(b) for b in bs], in any context -/
theorem lc_flags {σ : L2.St} {H : Hp} {a : Addr} {bs : List Bool} {Q : VK} {i j : Nat} (hs : σ[i]? = some (some (.ref a))) (hj : j < σ.length) (hl : SqL K H a (bs.map V.bl)) (hb : bs.length < 1000)
    (q : ∀ D, H D = none → Q (.ref D) (upd H D (.lst (bs.map flagI)))) : tLc (iList K (tVar i)) (gName j) tYes (tCB rIntB (tCons (tVar j) tNil)) [j] σ H Q := by
  refine ⟨.ref a, hs, a, rfl, ⟨_, hl⟩, fun D hD => ⟨fun n m H' => m = bs.length - n ∧ n ≤ bs.length ∧ H' = upd H D (.lst ((bs.take n).map flagI)), ⟨bs.length, rfl, Nat.zero_le _, rfl⟩, ?_⟩⟩
  rintro n m H' ⟨rfl, hn, rfl⟩
  have hl' : ∀ o, SqL K (upd H D o) a (bs.map V.bl) := fun o => sq_upd hl hD
  by_cases hlt : n < bs.length
  · have en : bs[n]? = some bs[n] := List.getElem?_eq_getElem hlt
    have em : (bs.map V.bl)[n]? = some (.bl bs[n]) := by rw [List.getElem?_map, en]; rfl
    refine .inr ⟨⟨_, _, hl' _, em⟩, fun H2 => H2 = upd H D (.lst ((bs.take (n + 1)).map flagI)), fun H2 e => ⟨bs.length - (n + 1), by omega, rfl, hlt, e⟩, fun x H2 y => ?_⟩
    obtain ⟨eH, ex⟩ := y
    have e2 := ex _ (hl' _)
    rw [em] at e2
    cases e2
    subst eH
    have w1 : L2.wipe ((L2.wipe σ [j]).set j (some (.bl bs[n]))) [j] = L2.wipe σ [j] := by
      show ((σ.set j none).set j (some (.bl bs[n]))).set j none = σ.set j none
      rw [List.set_set, List.set_set]
    have w2 : ((L2.wipe σ [j]).set j (some (.bl bs[n])))[j]? = some (some (.bl bs[n])) := List.getElem?_set_self (by show j < (σ.set j none).length; rw [List.length_set]; exact hj)
    refine ⟨w1, ?_⟩
    refine ⟨_, w2, .inr ⟨bs[n], rfl, _, upd_same, ?_, ?_⟩⟩
    · have : (1000 : Nat) < sizeLine := by decide
      rw [List.length_map, List.length_take]
      omega
    · have e3 : bs.take (n + 1) = bs.take n ++ [bs[n]] := by rw [List.take_succ, en]; rfl
      rw [e3, List.map_append, upd_upd]
      rfl
  · have e : n = bs.length := by omega
    subst e
    refine .inl ⟨⟨_, hl' _, by rw [List.length_map]; exact Nat.le_refl _⟩, ?_⟩
    rw [List.take_length]
    exact q D hD
/-- isinstance(e, C), e what is handled -/
theorem pe_isH {p : Addr × Obj} {D : Addr} {i : Nat} {x y : Str} {c : V} {cv : Value} {b : Bool} {q q1 q2 pos : Pos} (hp : p ∈ X.pn) (C : ExcC X.K D) (hz : Zc (.ref D) none p.2) (hf : ∃ vs, p.2.data = .fields vs) (hN : X.N[i]? = some y) (hv : Vis X.env.scope y) (hc : PE X (.Name x q2) (tC c)) (hcv : ∀ u, RelV c u → u = cv)
    (e : PySem.W.kitOne X.K (.ref D) cv = some b) (hg : Gl X "isinstance") (hm : X.mg "isinstance" = none) (hd : (y == ("__debug__" : Str)) = false := by decide) (hcd : (y == ("__classdict__" : Str)) = false := by decide)
    (he : starEach [.Name y q1, .Name x q2] X.env = (false, eval (.Name y q1) X.env) :: starEach [.Name x q2] X.env := by rfl) (he2 : starEach [.Name x q2] X.env = (false, eval (.Name x q2) X.env) :: starEach [] X.env := by rfl) (hpl : (backTo pos (starEach [.Name x q2] X.env)).any (·.1) = false := by rfl) :
    PE X (.Call (.Name "isinstance" q) [.Name y q1, .Name x q2] [] pos) fun σ H Q => σ[i]? = some (some (.ref p.1)) ∧ Q (.bl b) H := by
  have z := pe_callB (p := q) (call_isH hp C hz hf) hg hm (by decide +kernel) (pa_cons (pe_var (pos := q1) hN hv hd hcd) (pa_cons hc pa_nil he2) he) (by decide) (by decide) he hpl
  exact pe_imp z fun σ H Q ⟨h1, h2⟩ => ⟨_, h1, c, cv, b, rfl, hcv, e, h2⟩
end
/-! ### the word's def -/
def nmX : XC → Str
  | .path => "BadPath"
  | .state => "BadState"
  | .deed => "BadDeed"
  | .look => "BadLook"
  | .number => "BadNumber"
  | .storm => "Storm"
  | .text => "BadText"
/-- what the top has written of the refusals of cs -/
structure ExcAll (cs : List XC) (ca : XC → Addr) (K : PySem.W.Frag) (mg : Str → Option Value) : Prop where
  C : ∀ c ∈ cs, ExcC K (ca c)
  kit : ∀ c ∈ cs, ∀ d ∈ cs, PySem.W.kitOne K (.ref (ca c)) (.ref (ca d)) = some (decide (c = d))
  kitV : ∀ c ∈ cs, PySem.W.kitOne K (.ref (ca c)) (.type "ValueError") = some true
  g : ∀ c ∈ cs, mg (nmX c) = some (.ref (ca c))
  ve : mg "ValueError" = none
  isi : mg "isinstance" = none
  sm : mg "sum" = none
  it : mg "int" = none
section
variable {T : Gam} {ca : XC → Addr} {P : Program} {w : World} {K : PySem.W.Frag} {mg : Str → Option Value} {base : Heap}
theorem run_word {cs : List XC} {x : Str} {st : Stmt} {f : Addr} {fd : FuncData} {N ps : List Str} {k : Nat} (F : L2.Fun K x x st f fd) (S : FnScope N ps (defScope st)) (hps : ps.length = 1)
    (hbody : ∀ (CX : CXT) (cdv : Value) (A : Around) (outer : List PySem.Env) (s : Shared) (H : Hp) (Q : VK) (E : XK) (p : Addr × Obj) (c : XC) (S : List Addr), L2H.Hot1 A p → p.2.cls = .ref (ca c) → p.2.dict = none → (∃ vs, p.2.data = .fields vs) → c ∈ cs → Live T S H → (∀ v H', Pe T H H' → Rp K (hide S H') v (refused nmX c) → Q v H') →
      ∃ t, PSs (L2H.cxH CX P w K mg base N x (defScope st) f cdv A outer s H E p) (defBody st) t ∧ t { nx := fun _ H' => Q .non H', rt := Q } (L2.start N [.ref p.1]) H) : FnW cs T ca nmX P w K mg base (k + 1) f fd ps := by
  obtain ⟨oc, od, kV, doc, pm, an, cdv, ct, osl, rfl, lk, hcd⟩ := F.ex
  refine ⟨fun CX A outer s H args Q E p c S0 hr hot hpin e0 hb z1 z2 hcs lv hq => ?_⟩
  have KX := e0.mod.kin.keeps fun b o e => (e0.bs b o e).1
  have hkd : ∀ y ∈ ps.zip [Value.ref p.1], (defScope st).names.lookup y.1 = some .local ∨ ((defScope st).names.lookup y.1 = some .cell ∧ ((cellsFrom (s.heap.objs.size + 1) (defScope st).names []).lookup y.1).isSome = true) := fun ⟨n, v⟩ hy => by
    rcases S.par n (List.of_mem_zip hy).1 with q | q
    · exact .inl q
    · exact .inr ⟨q, PySem.W.cellsFrom_some _ _ _ (.inl q)⟩
  refine codeAny_call_function hr.depth (KX _ _ lk) rfl S.co S.gen rfl (PySem.W.codeRec_of KX hcd) (hb _ _ _ _ ?_)
  refine wpAny_newFunctionEnv_cells S.kind hkd fun env he s1 y => ?_
  subst he
  refine ⟨(e0.mod.nolimit.keeps fun b o e => (e0.bs b o e).1).keeps y.toInCall.keep, codeAny_func ?_⟩
  have hf : ∃ vs, p.2.data = .fields vs := let ⟨_, vs, e, _⟩ := hot; ⟨vs, e⟩
  obtain ⟨t, ht, h⟩ := hbody CX cdv A outer s H Q E p c S0 hot z1 z2 hf hcs lv hq
  have J : Inv (L2H.cxH CX P w K mg base N x (defScope st) f cdv A outer s H E p) [] (L2.start N [.ref p.1]) H s1 := L2H.inv_startH (us := [.ref p.1]) (vs := [.ref p.1]) S hpin e0 hps.symm (.cons rfl .nil) y
  refine wpAny_mono (ht.run [] s1 _ H _ J h) (fun fl s' hs => ?_) fun e s' hs => hs
  match fl, hs with
  | .ret u, ⟨v, σ', H', J', rv, q⟩ => exact ⟨v, H', J'.os, J'.bare, J'.base, J'.hok, rv, q⟩
  | .next, ⟨σ', H', J', q⟩ => exact ⟨V.non, H', J'.os, J'.bare, J'.base, J'.hok, rfl, q⟩
  | .brk, ⟨_, _, _, q⟩ => exact q.elim
  | .cont, ⟨_, _, _, q⟩ => exact q.elim
end
end IL
namespace IL
open PySem PySem.Spec PyProof.Rows L2
/-! ### {(..): v, ..} -/
def tDispT (trs : List (TE × TE)) : TE := fun σ H Q => ∀ p, H p = none → tPairs trs σ (upd H p (.dT [])) fun ps H2 => H2 p = some (.dT []) ∧ ∃ kvs : List (List Key × Addr × V), ps = kvs.map (fun kv => (V.ref kv.2.1, kv.2.2)) ∧
  (∀ kv ∈ kvs, H2 kv.2.1 = some (.tup (kv.1.map kV))) ∧ (kvs.map (·.1)).Nodup ∧ kvs.length ≤ 15 ∧ Q (.ref p) (upd H2 p (.dT (kvs.map fun kv => (kv.1, kv.2.2))))
theorem carriesH_of {P : Program} {w : World} {H : Hp} {h : Heap} (ok : HOk P w H h) : ∀ {kvs : List (List Key × Addr × V)} {ws : List (Value × Value)}, VV (kvs.map fun kv => (V.ref kv.2.1, kv.2.2)) ws → (∀ kv ∈ kvs, H kv.2.1 = some (.tup (kv.1.map kV))) →
    ∃ rs : List (List Key × Addr × Value), CarriesH (tupleKind (mixKind P w)) h ws rs ∧ KT H (kvs.map fun kv => (kv.1, kv.2.2)) rs ∧ rs.map (·.1) = kvs.map (·.1)
  | [], _, r, _ => by rw [List.map_nil] at r; cases r; exact ⟨[], True.intro, .nil, rfl⟩
  | p :: kvs, _, r, hk => by
    rw [List.map_cons] at r
    cases r with
    | @cons a b as bs h t =>
      obtain ⟨rs, c, q, e⟩ := carriesH_of ok t fun kv hm => hk kv (List.mem_cons_of_mem _ hm)
      obtain ⟨b1, b2⟩ := b
      have hp := hk p List.mem_cons_self
      cases (show b1 = Value.ref p.2.1 from h.1)
      exact ⟨(p.1, p.2.1, b2) :: rs, ⟨rfl, rfl, key_of ok hp, c⟩, .cons ⟨rfl, hp, h.2⟩ q, by rw [List.map_cons, List.map_cons, e]⟩
theorem pe_dispT {X : Cx} {pos : Pos} {keys : List (Option Expr)} {values : List Expr} {trs : List (TE × TE)} (hu : X.A.units + 1 < cLine) (h : PPs X pos keys values trs) (hall : keys.all (·.isSome) = true) (hl : keys.length = values.length) (h0 : keys ≠ [])
    (h15 : keys.length ≤ 15) : PE X (.Dict keys values pos) (tDispT trs) := by
  refine ⟨fun pins s σ H Q I q => ?_⟩
  have hn := I.hok.fresh (Nat.le_refl s.heap.objs.size)
  have I1 := I.laid (a := s.heap.objs.size) (o := .dT []) (h' := s.heap.push { cls := .type "dict", data := .dict #[] }) (t' := s.toks) (fun _ _ q => Heap.get?_push_of_some _ q) (Nat.le_refl _) (dt_empty s.heap I.big)
  have en := pairTrees_length keys values X.env pos hall hl
  have ne : pairTrees keys values X.env pos ≠ [] := fun z => by
    rw [z] at en
    exact h0 (List.length_eq_zero_iff.mp en.symm)
  rw [arm_eval_Dict, zip_pairTrees keys values X.env pos hall hl, dictDisplay_pairs _ ne (by omega)]
  refine wpAny_bind (wpAny_standAt (wpAny_bind (wpAny_subDictH (knd := tupleKind (mixKind X.prog X.w)) (Q := fun d s' => wpAny (model X.prog X.w) X.A (pure (Value.ref d)) (EP X pins σ Q) X.xe s') ?_ (by omega) (thn (h.run pins _ σ _ _ I1 (q _ hn)) fun ws s2 ⟨ps, H2, I2, rel, e, kvs, ep, hk, nd, lk, q2⟩ => ?_))))
  · show X.A.units < cLine
    omega
  · subst ep
    obtain ⟨rs, c, rk, er⟩ := carriesH_of I2.hok rel hk
    obtain ⟨z, hd, vs0, r0, dd⟩ := dt_of I2.hok e
    cases r0
    refine ⟨rs, c, dd, fun h' tk dd' hs => wpAny_pure ⟨.ref s.heap.objs.size, _, ?_, rfl, q2⟩⟩
    rw [storedAllH_nil_of_nodup _ (by rw [er]; exact nd)] at dd'
    obtain ⟨qo, es, epo, hq, x1, x2, x3, _, x5⟩ := dd'
    refine d_write I2 (by rw [e]; exact True.intro) hs ⟨qo, hq⟩ ⟨by rw [List.length_map, sizeLine_eq]; omega, hd, rs, rk.keeps fun b ys eb => ?_, qo, es, epo, hq, x1, x2, x3, x5⟩
    rw [upd_ne (ne_of eb e (fun z => nomatch z))]
    exact eb
/-! ### an object that is being made -/
section
variable {T : Gam} {K : PySem.W.Frag} {S : List Addr} {H H4 : Hp} {p : Addr} {o o0 : HO}
theorem le_new (hp : H p = none) : RdLe (hide S H) (hide (p :: S) (upd H p o)) := by
  have q : ∀ {a : Addr} {u : HO}, hide S H a = some u → hide (p :: S) (upd H p o) a = some u := fun {a u} e => by
    obtain ⟨h1, h2⟩ := hide_some e
    have ne : a ≠ p := ne_of_none h2 hp
    rw [hide_in (by intro z; rcases List.mem_cons.mp z with z | z; exact ne z; exact h1 z), upd_ne ne]
    exact h2
  exact ⟨fun a u _ r => r.imp q fun ⟨ob, r⟩ => ⟨ob, q r⟩, fun a xs _ r => q r⟩
theorem le_pub : RdLe (hide (p :: S) H) (hide S (upd H p o)) := by
  have q : ∀ {a : Addr} {u : HO}, hide (p :: S) H a = some u → hide S (upd H p o) a = some u := fun {a u} e => by
    obtain ⟨h1, h2⟩ := hide_some e
    rw [hide_in (fun z => h1 (List.mem_cons_of_mem _ z)), upd_ne (fun z => h1 (by rw [z]; exact List.mem_cons_self))]
    exact h2
  exact ⟨fun a u _ r => r.imp q fun ⟨ob, r⟩ => ⟨ob, q r⟩, fun a xs _ r => q r⟩
theorem pe_pub (hp : H p = none) (pe : Pe T H H4) (h4 : H4 p = some o0) (h0 : isOwn o0 = true) (ho : isTbl o = false) : Pe T H (upd H4 p o) := by
  refine ⟨fun c u h n => ?_, fun c h => ?_, fun t => TabC.upd (pe.tb t) h4 (isTbl_of_own h0) (fix_of_own h0)⟩
  · rw [upd_ne (ne_of_none h hp)]
    exact pe.st c u h n
  · by_cases hcp : c = p
    · rw [hcp]; exact hp
    · rw [upd_ne hcp] at h
      exact pe.fr c h
theorem live_new (lv : Live T S H) (hp : H p = none) (h0 : isOwn o = true) : Live T (p :: S) (upd H p o) := by
  have pn : Pe T H (upd H p o) := .new hp (isTbl_of_own h0)
  refine ⟨fun a ha => ?_, pn.tb lv.tb⟩
  rcases List.mem_cons.mp ha with rfl | ha
  · exact ⟨o, upd_same, h0⟩
  · exact (lv.le pn).own a ha
end
/-! ### pairs -/
def mPairs : List (Ev × Ev) → Env → Res (List (D × D))
  | [], _ => .ok []
  | p :: r, env => (p.1 env).bind fun k => (p.2 env).bind fun v => (mPairs r env).bind fun ps => .ok ((k, v) :: ps)
def gDispT (ps : List (D × D)) : Option D := if (ps.all fun p => (keyT p.1).isSome) && decide ((ps.map fun p => keyT p.1).Nodup) && decide (ps.length ≤ 15) = true then some (.dict ps) else none
def mDispT (prs : List (Ev × Ev)) : Ev := fun env => (mPairs prs env).bind fun ps => ofO (gDispT ps)
def Rps (K : PySem.W.Frag) (S : List Addr) : Hp → List (V × V) → List (D × D) → Prop := fun H vs ps => RpAll K (hide S H) (vs.map (·.1)) (ps.map (·.1)) ∧ RpAll K (hide S H) (vs.map (·.2)) (ps.map (·.2))
structure IPs (T : Gam) (ca : XC → Addr) (X : Cx) (W : WX) (pos : Pos) (keys : List (Option Expr)) (values : List Expr) (prs : List (Ev × Ev)) : Prop where
  pp : PPs X pos keys values (prs.map fun p => (tI T ca X.K W p.1, tI T ca X.K W p.2))
section
variable {T : Gam} {ca : XC → Addr} {X : Cx} {W : WX} {pos : Pos} {keys : List (Option Expr)} {values : List Expr} {prs : List (Ev × Ev)} {k v : Expr} {mk mv : Ev}
theorem ips_nil : IPs T ca X W pos [] [] [] := ⟨pps_nil⟩
theorem ips_cons (hk : IE T ca X W k mk) (hv : IE T ca X W v mv) (h : IPs T ca X W pos keys values prs) : IPs T ca X W pos (some k :: keys) (v :: values) ((mk, mv) :: prs) := ⟨pps_cons hk.pe hv.pe h.pp⟩
theorem pairs_of {K : PySem.W.Frag} {S : List Addr} {env : Env} {σ : L2.St} : ∀ {prs : List (Ev × Ev)} {H : Hp} {Q : List (V × V) → Hp → Prop}, Live T S H → RelE K (hide S H) env σ → Fin T ca (Rps K S) W σ H (mPairs prs env) Q → tPairs (prs.map fun p => (tI T ca K W p.1, tI T ca K W p.2)) σ H Q
  | [], H, Q, lv, rel, fin => fin [] H .refl ⟨.nil, .nil⟩
  | p :: r, H, Q, lv, rel, fin => ⟨S, env, lv, rel, Fin.bind (R' := Rv K S) fin fun d x H1 _ p1 r1 f1 => ⟨S, env, lv.le p1, rel.le p1, Fin.bind (R' := Rv K S) f1 fun e y H2 _ p2 r2 f2 =>
      pairs_of ((lv.le p1).le p2) ((rel.le p1).le p2) (Fin.bind (R' := Rps K S) f2 fun ps vs H3 _ p3 r3 f3 => f3 _ H3 .refl ⟨.cons ((Rp.le p2.rd r1).le p3.rd) r3.1, .cons (Rp.le p3.rd r2) r3.2⟩)⟩⟩
theorem keyed {K : PySem.W.Frag} {S : List Addr} {H : Hp} : ∀ {vs : List (V × V)} {ps : List (D × D)}, Rps K S H vs ps → (ps.all fun p => (keyT p.1).isSome) = true →
    ∃ kvs : List (List Key × Addr × V), vs = kvs.map (fun kv => (V.ref kv.2.1, kv.2.2)) ∧ (∀ kv ∈ kvs, H kv.2.1 = some (.tup (kv.1.map kV))) ∧ (kvs.map fun kv => some kv.1) = ps.map (fun p => keyT p.1) ∧ RpT K (hide S H) (kvs.map fun kv => (kv.1, kv.2.2)) ps
  | [], [], _, _ => ⟨[], rfl, fun _ h => absurd h (by simp), rfl, .nil⟩
  | v :: vs, p :: ps, ⟨r1, r2⟩, h => by
    cases r1 with
    | cons h1 r1 =>
      cases r2 with
      | cons h2 r2 =>
        rw [List.all_cons, Bool.and_eq_true] at h
        obtain ⟨kvs, e1, e2, e3, e4⟩ := keyed (vs := vs) (ps := ps) ⟨r1, r2⟩ h.2
        obtain ⟨k, hk⟩ := Option.isSome_iff_exists.mp h.1
        obtain ⟨q, e5, e6, e7⟩ := key_rp h1 hk
        obtain ⟨v1, v2⟩ := v
        obtain ⟨p1, p2⟩ := p
        dsimp only at e5 e7 hk h2
        subst e5 e7
        refine ⟨(k, q, v2) :: kvs, by rw [e1] <;> rfl, fun kv hm => ?_, by rw [List.map_cons, List.map_cons, e3, hk], .cons h2 e4⟩
        rcases List.mem_cons.mp hm with rfl | hm
        · exact e6
        · exact e2 kv hm
  | [], _ :: _, ⟨r1, _⟩, _ => nomatch r1
  | _ :: _, [], ⟨r1, _⟩, _ => nomatch r1
theorem ie_dispT (hu : X.A.units + 64 < cLine) (h : IPs T ca X W pos keys values prs) (hall : keys.all (·.isSome) = true := by rfl) (hl : keys.length = values.length := by rfl) (h0 : keys ≠ [] := by exact fun z => nomatch z) (h15 : keys.length ≤ 15 := by exact of_decide_eq_true rfl) : IE T ca X W (.Dict keys values pos) (mDispT prs) :=
  ⟨pe_imp (pe_dispT (by omega) h.pp hall hl h0 h15) fun σ H Q ⟨S, env, lv, rel, fin⟩ p hp => pairs_of (live_new lv hp rfl) ⟨rel.len, fun i d e => let ⟨v, h1, h2⟩ := rel.at_ i d e; ⟨v, h1, h2.le (le_new hp)⟩⟩ (by
    have pn : Pe T H (upd H p (.dT [])) := .new hp
    unfold mDispT at fin
    cases hm : mPairs prs env with
    | ok ps =>
      rw [hm] at fin
      intro vs H2 p2 r2
      have h2 : H2 p = some (.dT []) := p2.st p _ upd_same rfl
      obtain ⟨z, hz, w⟩ := Fin.some (show Fin T ca (Rv X.K S) W σ H (ofO (gDispT ps)) Q from fin)
      unfold gDispT at hz
      split at hz
      · rename_i hc
        cases hz
        rw [Bool.and_eq_true, Bool.and_eq_true] at hc
        obtain ⟨⟨c1, c2⟩, c3⟩ := hc
        obtain ⟨kvs, e1, e2, e3, e4⟩ := keyed r2 c1
        have nd : (kvs.map (·.1)).Nodup := by
          have z : (kvs.map fun kv => some kv.1).Nodup := by rw [e3]; exact of_decide_eq_true c2
          unfold List.Nodup at z ⊢
          rw [List.pairwise_map] at z ⊢
          exact z.imp fun h e => h (congrArg some e)
        have hl : kvs.length = ps.length := by
          have := congrArg List.length e3
          simpa using this
        exact ⟨h2, kvs, e1, e2, nd, by rw [hl]; exact of_decide_eq_true (of_decide_eq_true c3), w _ _ (pe_pub hp (pn.trans p2) h2 rfl rfl) (.dT (.inl ((hide_in (lv.no hp)).trans upd_same)) (e4.le le_pub))⟩
      · cases hz
    | exc c => rw [hm] at fin; exact fun H2 p2 => fin H2 (pn.trans p2)
    | stuck => rw [hm] at fin; exact fin)⟩
end
end IL
namespace IL
open PySem PySem.Spec PyProof.Rows L2
/-! ### slices -/
abbrev rSlG (K : PySem.W.Frag) : V → Option Int → Option Int → Hp → VK → Prop := fun x lo hi H Q => (rSlL K x lo hi H Q ∨ rSlA K x lo hi H Q) ∨ rSlS x lo hi H Q
structure IO (T : Gam) (ca : XC → Addr) (X : Cx) (W : WX) (e : Option Expr) (m : Option Ev) : Prop where
  po : ∃ t, PO X e t ∧ ∀ S env σ H (Q : Option Int → Hp → Prop), Live T S H → RelE X.K (hide S H) env σ → Fin T ca (fun _ (a b : Option Int) => a = b) W σ H (mPart m env) Q → t σ H Q
section
variable {T : Gam} {ca : XC → Addr} {X : Cx} {W : WX} {e a b : Expr} {pos p2 : Pos} {ma mb : Ev} {lo hi : Option Expr} {ml mh : Option Ev}
theorem io_no : IO T ca X W none none := ⟨⟨_, po_none, fun S env σ H Q lv rel fin => fin none H .refl rfl⟩⟩
theorem io_some (h : IE T ca X W e ma) : IO T ca X W (some e) (some ma) := ⟨⟨_, po_some h.pe, fun S env σ H Q lv rel fin => ⟨S, env, lv, rel, by
  unfold mPart at fin
  refine Fin.bind (R' := Rv X.K S) fin fun d v H1 _ p1 r1 f1 => ?_
  cases d with
  | int i =>
    cases rp_int r1
    exact ⟨i, rfl, f1 _ H1 .refl rfl⟩
  | _ => exact f1.elim⟩⟩⟩
theorem cut_rp {K : PySem.W.Frag} {G : Hp} {vs : List V} {ds : List D} (r : RpAll K G vs ds) (l h : Option Int) : RpAll K G (cutV vs l h) (cutL ds l h) := by
  unfold cutV cutL
  rw [r.length]
  exact (r.drop _).take _
theorem cut_all {ds : List D} {l h : Option Int} (e : HT.sIx ds.length 0 l = 0 ∧ HT.sIx ds.length ds.length h = ds.length) : cutL ds l h = ds := by
  unfold cutL
  rw [e.1, e.2]
  simp
theorem imp_sl {S : List Addr} {H : Hp} {Q : VK} {x : V} {d z : D} {l h : Option Int} (lv : Live T S H) (r : Rp X.K (hide S H) x d) (g : gSl d l h = some z) (w : Wants T X.K S H z Q) : rSlG X.K x l h H Q := by
  cases d with
  | list ds =>
    cases g
    obtain ⟨a, xs, rfl, h1, rr⟩ := rp_lst r
    exact .inl (.inl ⟨a, xs, rfl, sqL_hide h1, fun p hp => w.nlst lv (cut_rp rr l h) p hp⟩)
  | tuple ds =>
    cases g
    obtain ⟨a, xs, rfl, h1, rr⟩ := rp_tup r
    refine .inl (.inr ⟨a, xs, rfl, tup_hide h1, fun hw => ?_, fun _ p hp => w.ntup lv (cut_rp rr l h) p hp⟩)
    rw [rr.length] at hw
    rw [cut_all hw] at w
    exact w.same r
  | str s =>
    have g' : (if big s.length = true then some (PyData.str (cutS s l h)) else none) = some z := g
    split at g'
    · rename_i hb
      cases g'
      cases rp_str r
      exact .inr ⟨s, rfl, big_ok hb, w.str⟩
    · cases g'
  | _ => cases g
theorem ie_sl (ha : IE T ca X W a ma) (hl : IO T ca X W lo ml) (hh : IO T ca X W hi mh) : IE T ca X W (.Subscript a (.Slice lo hi none p2) pos) (mSl ma ml mh) := by
  obtain ⟨tl, pl, ql⟩ := hl.po
  obtain ⟨th, ph, qh⟩ := hh.po
  exact ⟨pe_imp (pe_slice ((sl_list.or sl_tupA).or sl_str) ha.pe pl ph) fun σ H Q ⟨S, env, lv, rel, fin⟩ => ⟨S, env, lv, rel, Fin.bind (R' := Rv X.K S) fin fun d v H1 _ p1 r1 f1 =>
    ql S env σ H1 _ (lv.le p1) (rel.le p1) (Fin.bind (R' := fun _ (a b : Option Int) => a = b) f1 fun l l' H2 _ p2 e2 f2 => by
      cases (show l' = l from e2)
      exact qh S env σ H2 _ ((lv.le p1).le p2) ((rel.le p1).le p2) (Fin.bind (R' := fun _ (a b : Option Int) => a = b) f2 fun h h' H3 _ p3 e3 f3 => by
        cases (show h' = h from e3)
        obtain ⟨z, hz, w⟩ := f3.some
        exact imp_sl (((lv.le p1).le p2).le p3) ((Rp.le p2.rd r1).le p3.rd) hz w))⟩⟩
/-! ### {k: v}, the key a text or an int -/
def gDisp1 : D → D → Option D
  | .str x, v => some (.dict [(.str x, v)])
  | .int i, v => some (.dict [(.int i, v)])
  | _, _ => none
theorem ie_disp1 {k v : Expr} {mk mv : Ev} (hk : IE T ca X W k mk) (hv : IE T ca X W v mv) : IE T ca X W (.Dict [some k] [v] pos) (m2 gDisp1 mk mv) :=
  ⟨pe_imp (pe_disp (pps_cons hk.pe hv.pe pps_nil) rfl rfl (fun z => nomatch z) (by show 1 ≤ 15; decide)) fun σ H Q ⟨S, env, lv, rel, fin⟩ p hp => by
    have pn : Pe T H (upd H p (.dK [])) := .new hp
    have lv1 : Live T (p :: S) (upd H p (.dK [])) := live_new lv hp rfl
    have rel1 : RelE X.K (hide (p :: S) (upd H p (.dK []))) env σ := ⟨rel.len, fun i d e => let ⟨v, h1, h2⟩ := rel.at_ i d e; ⟨v, h1, h2.le (le_new hp)⟩⟩
    refine ⟨p :: S, env, lv1, rel1, ?_⟩
    unfold m2 at fin
    cases h1 : mk env with
    | exc c => rw [h1] at fin; exact fun H' p' => fin H' (pn.trans p')
    | stuck => rw [h1] at fin; exact fin
    | ok d =>
      rw [h1] at fin
      intro x H1 p1 r1
      refine ⟨p :: S, env, lv1.le p1, rel1.le p1, ?_⟩
      have fin : Fin T ca (Rv X.K S) W σ H ((mv env).bind fun e => ofO (gDisp1 d e)) Q := fin
      cases h2 : mv env with
      | exc c => rw [h2] at fin; exact fun H' p' => fin H' ((pn.trans p1).trans p')
      | stuck => rw [h2] at fin; exact fin
      | ok e =>
        rw [h2] at fin
        intro y H2 p2 r2
        have hH : H2 p = some (.dK []) := (p1.trans p2).st p _ upd_same rfl
        obtain ⟨z, hz, w⟩ := Fin.some (show Fin T ca (Rv X.K S) W σ H (ofO (gDisp1 d e)) Q from fin)
        have key : ∃ k : Key, x = kV k ∧ z = .dict [(kD k, e)] := by
          cases d with
          | str s => cases hz; exact ⟨.inr s, rp_str r1, rfl⟩
          | int i => cases hz; exact ⟨.inl i, rp_int r1, rfl⟩
          | _ => cases hz
        obtain ⟨k, rfl, rfl⟩ := key
        exact ⟨hH, [(k, y)], rfl, (by show 1 ≤ 15; decide), w _ _ (pe_pub hp ((pn.trans p1).trans p2) hH rfl rfl) (.dK (.inl ((hide_in (lv.no hp)).trans upd_same)) (.cons (Rp.le le_pub r2) .nil))⟩⟩
/-! ### flat data in a written tuple or list -/
def flatD : D → Option V
  | .none => some .non
  | .bool b => some (.bl b)
  | .int i => some (.int i)
  | .str x => some (.str x)
  | _ => none
def flatDs : List D → Option (List V)
  | [] => some []
  | d :: r => (flatD d).bind fun v => (flatDs r).map (v :: ·)
def gInF : D → D → Option D
  | d, .tuple es => (flatD d).bind fun v => (flatDs es).map fun vs => .bool (inV v vs)
  | d, .list es => (flatD d).bind fun v => (flatDs es).map fun vs => .bool (inV v vs)
  | _, _ => none
theorem flat_rp {K : PySem.W.Frag} {G : Hp} {v x : V} {d : D} (r : Rp K G v d) (e : flatD d = some x) : v = x ∧ flatV x = true := by
  cases r <;> first | (cases e; exact ⟨rfl, rfl⟩) | cases e
theorem flats_rp {K : PySem.W.Frag} {G : Hp} : ∀ {vs xs : List V} {ds : List D}, RpAll K G vs ds → flatDs ds = some xs → vs = xs ∧ xs.all flatV = true
  | _, _, _, .nil, e => by cases e; exact ⟨rfl, rfl⟩
  | _, _, _, .cons h r, e => by
    obtain ⟨x, h1, h2⟩ := Option.bind_eq_some_iff.mp e
    obtain ⟨xs, h3, rfl⟩ := Option.map_eq_some_iff.mp h2
    obtain ⟨rfl, f1⟩ := flat_rp h h1
    obtain ⟨rfl, f2⟩ := flats_rp r h3
    exact ⟨rfl, by rw [List.all_cons, f1, f2]; rfl⟩
theorem imp_inF : Imp2 T X.K (rIn X.K false) gInF := by
  intro S x y d e z H Q lv r1 r2 g w
  unfold gInF at g
  split at g
  · obtain ⟨v, h1, h2⟩ := Option.bind_eq_some_iff.mp g
    obtain ⟨vs, h3, rfl⟩ := Option.map_eq_some_iff.mp h2
    obtain ⟨a, xs, rfl, h4, rr⟩ := rp_tup r2
    obtain ⟨rfl, f1⟩ := flat_rp r1 h1
    obtain ⟨rfl, f2⟩ := flats_rp rr h3
    exact ⟨a, _, rfl, .inr (tup_hide h4), f1, f2, w.bl⟩
  · obtain ⟨v, h1, h2⟩ := Option.bind_eq_some_iff.mp g
    obtain ⟨vs, h3, rfl⟩ := Option.map_eq_some_iff.mp h2
    obtain ⟨a, xs, rfl, h4, rr⟩ := rp_lst r2
    obtain ⟨rfl, f1⟩ := flat_rp r1 h1
    obtain ⟨rfl, f2⟩ := flats_rp rr h3
    exact ⟨a, _, rfl, .inl (sqL_hide h4), f1, f2, w.bl⟩
  · cases g
/-! ### a written dict of ints by texts -/
structure KInts (K : PySem.W.Frag) (w : World) (mg : Str → Option Value) (x : Str) (f : Str → Option Int) : Prop where
  ex : ∃ d es n, mg x = some (.ref d) ∧ KDict K w d es n ∧ ∀ z, (f z = none ∧ PySem.W.nsIn K d z = some none) ∨ ∃ i t, f z = some i ∧ PySem.W.nsIn K d z = some (some (.int i t))
def gInK (f : Str → Option Int) : D → Option D
  | .str z => some (.bool (f z).isSome)
  | _ => none
def gGetK (f : Str → Option Int) : D → Option D
  | .str z => (f z).map .int
  | _ => none
theorem ie_inK {x : Str} {f : Str → Option Int} (D : KInts X.K X.w X.mg x f) (ha : IE T ca X W a ma) (hg : Gl X x := by rfl) (hd : (x == ("__debug__" : Str)) = false := by decide) : IE T ca X W (.Compare a [.In] [.Name x p2] pos) (m1 (gInK f) ma) := by
  obtain ⟨d, es, n, hm, kd, hf⟩ := D.ex
  exact ⟨pe_imp (pe_cmpR (op_in_kd kd) ha.pe (pe_glob (v := .ref d) hg hm rfl hd) (by rfl)) fun σ H Q ⟨S, env, lv, rel, fin⟩ => ⟨S, env, lv, rel, Fin.bind (R' := Rv X.K S) fin fun e v H1 _ p1 r1 f1 => by
    obtain ⟨z, hz, w⟩ := f1.some
    cases e with
    | str s =>
      cases hz
      cases rp_str r1
      rcases hf s with ⟨e1, e2⟩ | ⟨i, t, e1, e2⟩
      · rw [e1] at w
        exact ⟨s, _, rfl, rfl, e2, Wants.bl (T := T) (K := X.K) (S := S) w⟩
      · rw [e1] at w
        exact ⟨s, _, rfl, rfl, e2, Wants.bl (T := T) (K := X.K) (S := S) w⟩
    | _ => cases hz⟩⟩
theorem ie_getK {x : Str} {f : Str → Option Int} (D : KInts X.K X.w X.mg x f) (hb : IE T ca X W b mb) (hs : PlainIx b := by exact fun _ _ => rfl) (hg : Gl X x := by rfl) (hd : (x == ("__debug__" : Str)) = false := by decide) : IE T ca X W (.Subscript (.Name x p2) b pos) (m1 (gGetK f) mb) := by
  obtain ⟨d, es, n, hm, kd, hf⟩ := D.ex
  exact ⟨pe_imp (pe_ix ix_kdict (pe_glob (v := .ref d) hg hm rfl hd) hb.pe hs) fun σ H Q ⟨S, env, lv, rel, fin⟩ => ⟨S, env, lv, rel, Fin.bind (R' := Rv X.K S) fin fun e v H1 _ p1 r1 f1 => by
    obtain ⟨z, hz, w⟩ := f1.some
    cases e with
    | str s =>
      obtain ⟨i, hi, rfl⟩ := Option.map_eq_some_iff.mp hz
      cases rp_str r1
      rcases hf s with ⟨e1, e2⟩ | ⟨i', t, e1, e2⟩
      · rw [e1] at hi; cases hi
      · rw [e1] at hi
        cases hi
        exact ⟨d, s, .int i, rfl, rfl, ⟨es, n, _, kd.at_, kd.lit, e2, ⟨t, rfl⟩⟩, Wants.int (T := T) (K := X.K) (S := S) w⟩
    | _ => cases hz⟩⟩
end
end IL
namespace IL
open PySem PySem.Spec PyProof.Rows L2
section
variable {T : Gam} {ca : XC → Addr} {X : Cx} {W : WX} {pos p2 : Pos}
theorem ie_gi {x : Str} {n : Int} (h : ∃ t, X.mg x = some (.int n t)) (hg : Gl X x := by rfl) (hd : (x == ("__debug__" : Str)) = false := by decide) : IE T ca X W (.Name x pos) (mC (.int n)) := let ⟨_, e⟩ := h; ie_gint e hg hd
theorem ie_gs {x z : Str} (h : ∃ t, X.mg x = some (.str z t)) (hg : Gl X x := by rfl) (hd : (x == ("__debug__" : Str)) = false := by decide) : IE T ca X W (.Name x pos) (mC (.str z)) := let ⟨_, e⟩ := h; ie_gstr e hg hd
theorem ie_dict0 : IE T ca X W (.Dict [] [] pos) (mC (.dict [])) :=
  ⟨pe_imp pe_dnewT fun σ H Q ⟨S, env, lv, rel, fin⟩ p hp => fin _ _ (.new hp) (.dT (.inl (lv.new hp)) .nil)⟩
theorem tk0 : L2N.Takes X W0 := fun _ _ x => by
  obtain ⟨_, _, _, _, _, _, _, _, _, _, _, _, _, _, _, _, z⟩ := x
  exact z.elim
/-- a refusal's class, as it is raised -/
structure RsOk (K : PySem.W.Frag) (mg : Str → Option Value) (ca : XC → Addr) (c : XC) (x : Str) : Prop where
  ex : ∃ (B newId initId : String) (bm : List Value), ExcBaseFacts B newId initId bm ∧ PySem.W.excIn K (ca c) bm newId = true
  g : mg x = some (.ref (ca c))
  kp : PySem.W.keepIn K (.ref (ca c)) = true
  b : PySem.W.subIn K (.ref (ca c)) (.type "BaseException") = some true
  t : PySem.W.typeIn K (.ref (ca c)) = some (.type "type")
theorem is_rs {x msg : Str} {j : Nat} {p p2 pos2 : Pos} {cls : XC} (R : RsOk X.K X.mg ca cls x) (tk : L2N.Takes X W) (hc : X.calm = true := by rfl) (hg : Gl X x := by rfl) (hdb : (x == ("__debug__" : Str)) = false := by decide) :
    IS T ca X W (.Raise (some (.Call (.Name x p) [.Constant (.str msg) j p2] [] pos2)) none pos) (sRaise cls) :=
  let ⟨_, _, _, _, F, q⟩ := R.ex; is_raise F q R.g R.kp (raises_own R.b R.t) tk hc hg hdb
end
/-- a def as the top has written it -/
structure FunAt (K : PySem.W.Frag) (mg : Str → Option Value) (x : Str) (st : Stmt) (ps : List Str) : Prop where
  ex : ∃ f fd, L2.Fun K x x st f fd ∧ mg x = some (.ref f) ∧ Binds K fd ps []
theorem fn_at {T : Gam} {ca : XC → Addr} {P : Program} {w : World} {K : PySem.W.Frag} {mg : Str → Option Value} {base : Heap} {x : Str} {st : Stmt} {N ps : List Str} {k n : Nat} {m : Sv} (U : FunAt K mg x st ps) (hn : ps.length = n) (S : FnScope N ps (defScope st))
    (hbody : ∀ (f : Addr) (cdv : Value) (A : Around) (outer : List PySem.Env) (s : Shared) (H : Hp) (E : XK), Room k (A.deeper (envOfC x (defScope st) s.heap.objs.size f cdv)) →
      ISs T ca (cxOf (L2N.CX P w) P w K mg base N x (defScope st) f cdv A outer s H E) (fun c d _ H => E c d H) (defBody st) m) : FnD T ca P w K mg base (k + 1) x n fun ds => outR (m (startE N.length ds)) :=
  let ⟨f, _, F, hm, hb⟩ := U.ex; fnD_of F hm hb hn S fun cdv A outer s H E hr => hbody f cdv A outer s H E hr
theorem hu_at {k : Nat} {A : Around} (h : Room k A) : A.units + 64 < cLine := by have := h.un; omega
end IL
namespace IL
open PySem PySem.Spec PyProof.Rows L2
/-- as fn_ok, of a def whose code object is told -/
theorem fn_okL {T : Gam} {ca : XC → Addr} {P : Program} {w : World} {K : PySem.W.Frag} {mg : Str → Option Value} {base : Heap} {x : Str} {st : Stmt} {f : Addr} {N ps : List Str} {k : Nat} {m : Sv} {oc kV doc pm cdv ct : Value} {od an : Option Addr} {osl : Array (Option Value)}
    (lk : K.lookup f = some ⟨oc, od, .func (PySem.W.fnOf x x (defArgs st) (defBody st) (defScope st) .none kV doc pm an cdv ct), osl⟩) (hcd : PySem.W.codeIn K cdv x = true) (S : FnScope N ps (defScope st))
    (hbody : ∀ (A : Around) (outer : List PySem.Env) (s : Shared) (H : Hp) (E : XK), Room k (A.deeper (envOfC x (defScope st) s.heap.objs.size f cdv)) →
      ISs T ca (cxOf (L2N.CX P w) P w K mg base N x (defScope st) f cdv A outer s H E) (fun c d _ H => E c d H) (defBody st) m) : FnOk P w K mg base (L2N.CX P w) (k + 1) f (PySem.W.fnOf x x (defArgs st) (defBody st) (defScope st) .none kV doc pm an cdv ct) ps (SpD T ca K ps.length fun ds => outR (m (startE N.length ds))) := by
  refine fn_of lk hcd S (fun vs H Q E h => h.1) fun A outer s H vs Q E hr ⟨hl, S0, ds, lv, rr, fin⟩ => ⟨_, (hbody A outer s H E hr).ps, H, S0, [], startE N.length ds, start_rel lv rr, ?_⟩
  have fin : Fin T ca (Rv K S0) (fun c d _ H' => E c d H') [] H (outR (m (startE N.length ds))) Q := fin
  cases hm : m (startE N.length ds) with
  | nx e => rw [hm] at fin; exact fun os σ H' r => fin .non H' r.pe .non
  | ret d => rw [hm] at fin; exact fun v H' p r => fin v H' p r
  | exc c => rw [hm] at fin; exact fun σ H' p => fin H' p
  | brk e => rw [hm] at fin; exact fin.elim
  | ct e => rw [hm] at fin; exact fin.elim
  | stuck => rw [hm] at fin; exact fin.elim
end IL
namespace IL
open PySem PySem.Spec PyProof.Rows L2
/-! ### reading mirrors -/
abbrev Has (env : SEnv) (i : Nat) (e : Ent) : Prop := env[i]? = some (some e)
theorem Has.lt {env : SEnv} {i : Nat} {e : Ent} (h : Has env i e) : i < env.length := (List.getElem?_eq_some_iff.mp h).1
theorem has_set {env : SEnv} {i : Nat} {e : Ent} (h : i < env.length) : Has (env.set i (some e)) i e := List.getElem?_set_self h
theorem Has.ne {env : SEnv} {i j : Nat} {e : Ent} {x : Option Ent} (h : Has env j e) (n : i ≠ j) : Has (env.set i x) j e := (List.getElem?_set_ne n).trans h
theorem hid_of {env : SEnv} {i : Nat} {d : D} (h : Has env i (.val d)) : (hid env)[i]? = some (some d) := by unfold hid; rw [List.getElem?_map, h] <;> rfl
theorem vis_of {env : SEnv} {i : Nat} {d : D} (h : Has env i (.val d)) : (vis env)[i]? = some (some d) := by unfold vis; rw [List.getElem?_map, h] <;> rfl
theorem vis_own {env : SEnv} {i : Nat} {d : D} (h : Has env i (.own d)) : (vis env)[i]? = some (some (strip d)) := by unfold vis; rw [List.getElem?_map, h] <;> rfl
theorem var_of {E : Env} {i : Nat} {d : D} (h : E[i]? = some (some d)) : mVar i E = .ok d := by unfold mVar; rw [h]
theorem seq_nx {a b : Sv} {env e : SEnv} (h : a env = .nx e) : mSeq a b env = b e := by unfold mSeq; rw [h]
theorem seq_ret {a b : Sv} {env : SEnv} {d : D} (h : a env = .ret d) : mSeq a b env = .ret d := by unfold mSeq; rw [h]
theorem seq_exc {a b : Sv} {env : SEnv} {c : XC} (h : a env = .exc c) : mSeq a b env = .exc c := by unfold mSeq; rw [h]
theorem asg_of {i : Nat} {m : Ev} {env : SEnv} {d : D} (h : m (hid env) = .ok d) : sAsg i m env = .nx (env.set i (some (.val d))) := by unfold sAsg; rw [h] <;> rfl
theorem ownL_of {i : Nat} {m : Env → Res (List D)} {env : SEnv} {ds : List D} (h : m (hid env) = .ok ds) (hb : big ds.length = true) : sOwnL i m env = .nx (env.set i (some (.own (.list ds)))) := by unfold sOwnL; rw [h]; exact if_pos hb
theorem app_of {i : Nat} {m : Ev} {env : SEnv} {ds : List D} {d : D} (ho : Has env i (.own (.list ds))) (h : m (hid env) = .ok d) (hb : big ds.length = true) : sApp i m env = .nx (env.set i (some (.own (.list (ds ++ [d]))))) := by
  unfold sApp
  rw [ho]
  dsimp only
  rw [h]
  exact if_pos hb
theorem if_of {t : Env → Res Bool} {a b : Sv} {env : SEnv} {x : Bool} (h : t (vis env) = .ok x) : sIf t a b env = if x = true then a env else b env := by unfold sIf; rw [h] <;> rfl
theorem ret_of {m : Ev} {env : SEnv} {d : D} (h : m (vis env) = .ok d) : sRet m env = .ret d := by unfold sRet; rw [h] <;> rfl
theorem told_exc {cs : List XC} {nm : XC → Str} {m : Ev} {env : Env} {c : XC} (h : m env = .exc c) (hc : c ∈ cs) : mTold cs nm m env = .ok (refused nm c) := by unfold mTold; rw [h]; exact if_pos hc
theorem told_ok {cs : List XC} {nm : XC → Str} {m : Ev} {env : Env} {d : D} (h : m env = .ok d) : mTold cs nm m env = .ok d := by unfold mTold; rw [h]
theorem call1 {g : List D → Res D} {a : Ev} {E : Env} {d : D} (h : a E = .ok d) : mCallN 1 g (mCons a mNil) E = g [d] := by unfold mCallN mCons mNil; rw [h] <;> rfl
theorem call2 {g : List D → Res D} {a b : Ev} {E : Env} {d e : D} (h : a E = .ok d) (h' : b E = .ok e) : mCallN 2 g (mCons a (mCons b mNil)) E = g [d, e] := by
  unfold mCallN mCons mNil
  rw [h]
  dsimp only [Res.bind]
  rw [h'] <;> rfl
theorem cons_of {a : Ev} {r : Env → Res (List D)} {E : Env} {d : D} {ds : List D} (h : a E = .ok d) (h' : r E = .ok ds) : mCons a r E = .ok (d :: ds) := by
  unfold mCons
  rw [h]
  dsimp only [Res.bind]
  rw [h'] <;> rfl
theorem m2_of {g : D → D → Option D} {a b : Ev} {E : Env} {d e z : D} (h : a E = .ok d) (h' : b E = .ok e) (hz : g d e = some z) : m2 g a b E = .ok z := by
  unfold m2
  rw [h]
  dsimp only [Res.bind]
  rw [h']
  dsimp only
  rw [hz] <;> rfl
theorem mT_of {a : Ev} {E : Env} {b : Bool} (h : a E = .ok (.bool b)) : mT a E = .ok b := by unfold mT; rw [h] <;> rfl
theorem mB_of {g : List D → Option D} {a : Env → Res (List D)} {E : Env} {ds : List D} {z : D} (h : a E = .ok ds) (hz : g ds = some z) : mB g a E = .ok z := by
  unfold mB
  rw [h]
  dsimp only [Res.bind]
  rw [hz] <;> rfl
theorem for_of {m : Env → Res (List D)} {i : Nat} {b : Sv} {env : SEnv} {ds : List D} (h : m (hid env) = .ok ds) : sFor m i b env = forLoop i b ds env := by unfold sFor; rw [h] <;> rfl
/-- a loop that keeps what it keeps and never leaves -/
theorem loop_inv {i : Nat} {b : Sv} {I : SEnv → Prop} : ∀ {ds : List D}, (∀ d ∈ ds, ∀ env, I env → ∃ e, b (env.set i (some (.val d))) = .nx e ∧ I e) → ∀ env, I env → ∃ e, forLoop i b ds env = .nx e ∧ I e
  | [], _, env, h => ⟨env, rfl, h⟩
  | d :: r, st, env, h => by
    obtain ⟨e, h1, h2⟩ := st d List.mem_cons_self env h
    obtain ⟨e', h3, h4⟩ := loop_inv (ds := r) (fun d hd => st d (List.mem_cons_of_mem _ hd)) e h2
    exact ⟨e', by unfold forLoop; rw [h1]; exact h3, h4⟩
def isX (c : XC) (r : Res D) : Bool := match r with
  | .exc c' => decide (c = c')
  | _ => false
theorem isX_of {c : XC} {r : Res D} (h : isX c r = true) : r = .exc c := by
  unfold isX at h
  split at h
  · rw [of_decide_eq_true h]
  · cases h
theorem mulOk_r {i j : Int} (h1 : -(2 ^ 64) < j) (h2 : j < 2 ^ 64) : mulOk i j = true := by
  unfold mulOk
  rw [decide_eq_true h1, decide_eq_true h2]
  simp
theorem mulOk_l {i j : Int} (h1 : -(2 ^ 64) < i) (h2 : i < 2 ^ 64) : mulOk i j = true := by
  unfold mulOk
  rw [decide_eq_true h1, decide_eq_true h2]
  simp
theorem mulOk_big {i j : Int} (h1 : i.natAbs < 2 ^ 400) (h2 : j.natAbs < 2 ^ 400) : mulOk i j = true := by
  unfold mulOk
  rw [decide_eq_true h1, decide_eq_true h2]
  simp
theorem gMul_of {i j : Int} (h : mulOk i j = true) : gMul (.int i) (.int j) = some (.int (i * j)) := if_pos h
theorem gMod_of {i j : Int} (h : 0 < j) : gMod (.int i) (.int j) = some (.int (i % j)) := if_pos (decide_eq_true h)
theorem gDiv_of {i j : Int} (h : 0 < j) (h2 : j.natAbs < 2 ^ 400) : gDiv (.int i) (.int j) = some (.int (i / j)) := if_pos (by rw [decide_eq_true h, decide_eq_true h2]; rfl)
end IL
namespace IL
open PySem PySem.Spec PyProof.Rows L2
/-! ### a def under another name; a def of which nothing is said -/
structure FunAs (K : PySem.W.Frag) (mg : Str → Option Value) (x q : Str) (st : Stmt) (ps : List Str) : Prop where
  ex : ∃ f fd, L2.Fun K q q st f fd ∧ mg x = some (.ref f) ∧ Binds K fd ps []
section
variable {T : Gam} {ca : XC → Addr} {P : Program} {w : World} {K : PySem.W.Frag} {mg : Str → Option Value} {base : Heap} {x q : Str} {st : Stmt} {N ps : List Str} {k n : Nat} {m : Sv}
theorem FunAt.as (U : FunAt K mg x st ps) : FunAs K mg x x st ps := ⟨U.ex⟩
theorem fn_as (U : FunAs K mg x q st ps) (hn : ps.length = n) (S : FnScope N ps (defScope st))
    (hbody : ∀ (f : Addr) (cdv : Value) (A : Around) (outer : List PySem.Env) (s : Shared) (H : Hp) (E : XK), Room k (A.deeper (envOfC q (defScope st) s.heap.objs.size f cdv)) →
      ISs T ca (cxOf (L2N.CX P w) P w K mg base N q (defScope st) f cdv A outer s H E) (fun c d _ H => E c d H) (defBody st) m) : FnD T ca P w K mg base (k + 1) x n fun ds => outR (m (startE N.length ds)) := by
  obtain ⟨f, fd, F, hm, hb⟩ := U.ex
  subst hn
  exact ⟨f, fd, ps, rfl, fn_ok F S fun cdv A outer s H E hr => hbody f cdv A outer s H E hr, hm, F.kp, hb⟩
theorem fnD_stuck (U : FunAs K mg x q st ps) (hn : ps.length = n) : FnD T ca P w K mg base k x n fun _ => .stuck := by
  obtain ⟨f, fd, F, hm, hb⟩ := U.ex
  subst hn
  refine ⟨f, fd, ps, rfl, ⟨fun vs H Q E h => h.1, fun A outer s H args us vs Q E hr e0 b r h => ?_⟩, hm, F.kp, hb⟩
  obtain ⟨_, S, ds, lv, rr, fin⟩ := h
  exact (show False from fin).elim
end
/-! ### written tuples of texts -/
structure KStrs (K : PySem.W.Frag) (mg : Str → Option Value) (x : Str) (zs : List Str) : Prop where
  ex : ∃ (p : Addr) (o : Obj) (its : Array Value) (n : Nat), mg x = some (.ref p) ∧ K.lookup p = some o ∧ o.cls = .type "tuple" ∧ o.data = .seq its n ∧ its.size ≤ sizeLine ∧ Vals (zs.map V.str) its.toList
def gInT (zs : List Str) (d : D) : Option D := (flatD d).map fun v => .bool (inV v (zs.map V.str))
section
variable {T : Gam} {ca : XC → Addr} {X : Cx} {W : WX} {e a b : Expr} {es : List Expr} {pos p2 pos' : Pos} {ma mb me : Ev} {st : Stmt}
theorem flat_strs (zs : List Str) : (zs.map V.str).all flatV = true := List.all_eq_true.mpr fun v hv => let ⟨_, _, e⟩ := List.mem_map.mp hv; by rw [← e] <;> rfl
theorem inT_pre {x : Str} {zs : List Str} (D : KStrs X.K X.mg x zs) : ∃ p, X.mg x = some (.ref p) ∧ ∀ (S : List Addr) (env : IL.Env) (σ : L2.St) (H : Hp) (Q : VK), Live T S H → RelE X.K (hide S H) env σ → Fin T ca (Rv X.K S) W σ H (m1 (gInT zs) ma env) Q →
    tOp (rIn X.K false) (tI T ca X.K W ma) (tC (.ref p)) σ H Q := by
  obtain ⟨p, o, its, n, hm, h1, h2, h3, h4, h5⟩ := D.ex
  refine ⟨p, hm, fun S env σ H Q lv rel fin => ⟨S, env, lv, rel, Fin.bind (R' := Rv X.K S) fin fun d v H1 _ p1 r1 f1 => ?_⟩⟩
  obtain ⟨z, hz, w⟩ := f1.some
  obtain ⟨y, hy, rfl⟩ := Option.map_eq_some_iff.mp hz
  obtain ⟨rfl, f2⟩ := flat_rp r1 hy
  exact ⟨p, zs.map V.str, rfl, .inr (.inr ⟨o, its, n, h1, h2, h3, h4, h5⟩), f2, flat_strs zs, Wants.bl (T := T) (K := X.K) (S := S) w⟩
theorem ie_inT {x : Str} {zs : List Str} (D : KStrs X.K X.mg x zs) (ha : IE T ca X W a ma) (hg : Gl X x := by rfl) (hd : (x == ("__debug__" : Str)) = false := by decide) : IE T ca X W (.Compare a [.In] [.Name x p2] pos) (m1 (gInT zs) ma) := by
  obtain ⟨p, hm, h⟩ := inT_pre (T := T) (ca := ca) (W := W) (ma := ma) D
  exact ⟨pe_imp (pe_cmpR op_in_seq ha.pe (pe_glob (v := .ref p) hg hm rfl hd) (by rfl)) fun σ H Q ⟨S, env, lv, rel, fin⟩ => h S env σ H Q lv rel fin⟩
theorem it_inT {x : Str} {zs : List Str} (D : KStrs X.K X.mg x zs) (ha : IE T ca X W a ma) (hg : Gl X x := by rfl) (hd : (x == ("__debug__" : Str)) = false := by decide) : IT T ca X W (.Compare a [.In] [.Name x p2] pos) (mT (m1 (gInT zs) ma)) := by
  obtain ⟨p, hm, h⟩ := inT_pre (T := T) (ca := ca) (W := W) (ma := ma) D
  exact ⟨pt_imp (pt_cmpR op_in_seq ha.pe (pe_glob (v := .ref p) hg hm rfl hd) (by rfl)) fun σ H Q ⟨S, env, lv, rel, fin⟩ => h S env σ H _ lv rel (fin_T (X := X) (S := S) fin)⟩
/-! ### dicts with texts as keys that a name builds up -/
def sOwnDK (i : Nat) : Sv := fun env => .nx (env.set i (some (.own (.dict [mk0]))))
theorem is_ownDK {i : Nat} {x : Str} {lp : Pos} (hN : X.N.Nodup) (hi : X.N[i]? = some x := by rfl) (hx : Loc X.env.scope x := by first | exact Or.inl rfl | exact Or.inr rfl) (hs : swapsWith (.Dict [] [] lp) (some (.Name x pos')) pos.line X.env = pure false := by rfl) (hf : X.fn x = true ∨ X.env.scope.names.lookup x = some .local := by first | exact .inl rfl | exact .inr rfl) :
    IS T ca X W (.Assign [.Name x pos'] (.Dict [] [] lp) pos) (sOwnDK i) :=
  ⟨ps_imp (ps_set hN hi hx pe_dnewK hs hf) fun D σ H ⟨H0, S0, os, env, rel, fin⟩ q hq => fin _ _ _ (rel.newOwn hq rfl (.dK upd_same .nil) i)⟩
def keyS : D → Option Key
  | .str x => some (.inr x)
  | _ => none
def putS (es : List (D × D)) (k : Key) (d : D) : List (D × D) := if (es.any fun e => decide (keyS e.1 = some k)) = true then es.map (fun e => if keyS e.1 = some k then (e.1, d) else e) else es ++ [(kD k, d)]
def strKeys (es : List (D × D)) : Bool := es.all fun e => (keyS e.1).isSome
def sPutS (i : Nat) (mv mk : Ev) : Sv := fun env => match env[i]? with
  | some (some (.own (.dict ((.none, .none) :: es)))) => liftR (mv (hid env)) fun d => liftR (mk (hid env)) fun k => match keyS k with
    | some kk => if strKeys es && big es.length = true then .nx (env.set i (some (.own (.dict (mk0 :: putS es kk d))))) else .stuck
    | none => .stuck
  | _ => .stuck
theorem putS_rp {K : PySem.W.Frag} {G : Hp} {kvs : List (Key × V)} {es : List (D × D)} {k : Key} {v : V} {d : D} (r : RpK K G kvs es) (hs : strKeys es = true) (hk : (keyS (kD k)) = some k) (rv : Rp K G v d) : RpK K G (putK kvs k v) (putS es k d) := by
  have any_eq : ∀ {kvs : List (Key × V)} {es : List (D × D)}, RpK K G kvs es → strKeys es = true → (kvs.any fun kv => decide (kv.1 = k)) = (es.any fun e => decide (keyS e.1 = some k)) := by
    intro kvs es r
    induction kvs generalizing es with
    | nil => cases r; intro _; rfl
    | cons p kvs ih =>
      cases r with
      | @cons k' _ _ _ _ h r =>
        intro hs
        rw [strKeys, List.all_cons, Bool.and_eq_true] at hs
        rw [List.any_cons, List.any_cons, ih r hs.2]
        cases k' with
        | inl i => cases hs.1
        | inr x => simp [keyS, kD]
  have map_eq : ∀ {kvs : List (Key × V)} {es : List (D × D)}, RpK K G kvs es → strKeys es = true → RpK K G (kvs.map fun kv => if kv.1 = k then (kv.1, v) else kv) (es.map fun e => if keyS e.1 = some k then (e.1, d) else e) := by
    intro kvs es r
    induction kvs generalizing es with
    | nil => cases r; intro _; exact .nil
    | cons p kvs ih =>
      cases r with
      | @cons k' v' _ d' es' h r =>
        intro hs
        rw [strKeys, List.all_cons, Bool.and_eq_true] at hs
        rw [List.map_cons, List.map_cons]
        cases k' with
        | inl i => cases hs.1
        | inr x =>
          by_cases e : (Sum.inr x : Key) = k
          · have e2 : keyS (kD (Sum.inr x)) = some k := by rw [← e]; rfl
            rw [if_pos e, if_pos e2]
            exact .cons rv (ih r hs.2)
          · have e2 : ¬ keyS (kD (Sum.inr x)) = some k := fun z => e (Option.some.inj z)
            rw [if_neg e, if_neg e2]
            exact .cons h (ih r hs.2)
  have app : ∀ {kvs : List (Key × V)} {es : List (D × D)}, RpK K G kvs es → RpK K G (kvs ++ [(k, v)]) (es ++ [(kD k, d)]) := by
    intro kvs es r
    induction kvs generalizing es with
    | nil => cases r; exact .cons rv .nil
    | cons p kvs ih =>
      cases r with
      | cons h r => exact .cons h (ih r)
  unfold putK putS
  rw [any_eq r hs]
  split
  · exact map_eq r hs
  · exact app r
theorem keyS_rp {K : PySem.W.Frag} {G : Hp} {v : V} {d : D} {k : Key} (r : Rp K G v d) (h : keyS d = some k) : v = kV k ∧ keyS (kD k) = some k := by
  cases d with
  | str x =>
    cases h
    exact ⟨rp_str r, rfl⟩
  | _ => cases h
/-- found[k] = v -/
theorem is_putS {i : Nat} {x : Str} {px : Pos} {k v : Expr} {mk mv : Ev} (hu : X.A.units + 64 < cLine) (hk : IE T ca X W k mk) (hv : IE T ca X W v mv) (hi : X.N[i]? = some x := by rfl) (hvis : Vis X.env.scope x := by first | exact Or.inl rfl | exact Or.inr (Or.inl rfl) | exact Or.inr (Or.inr rfl)) (hd : (x == ("__debug__" : Str)) = false := by decide) (hcd : (x == ("__classdict__" : Str)) = false := by decide)
    (hs : swapsWith v (some (.Subscript (.Name x px) k pos')) pos.line X.env = pure false := by rfl) : IS T ca X W (.Assign [.Subscript (.Name x px) k pos'] v pos) (sPutS i mv mk) :=
  ⟨ps_imp (ps_dput (by omega) (pe_var hi hvis hd hcd) hk.pe hv.pe hs) fun D σ H ⟨H0, S0, os, env, rel, fin⟩ => by
    unfold sPutS at fin
    split at fin
    · rename_i es he
      refine ⟨os ++ S0, hid env, rel.lv, rel.hidE, fin_hid (R := Rv X.K (os ++ S0)) rel fin fun d v H1 p1 rel1 rv f => ?_⟩
      obtain ⟨p, h1, h2, _⟩ := rel1.own i _ he
      refine ⟨.ref p, h1, os ++ S0, hid env, rel1.lv, rel1.hidE, fin_hid (R := Rv X.K (os ++ S0)) rel1 f fun kd y H2 p2 rel2 ry f2 => ?_⟩
      split at f2
      · rename_i kk hkk
        split at f2
        · rename_i hb
          rw [Bool.and_eq_true] at hb
          obtain ⟨p', h1', h2', h3'⟩ := rel2.own i _ he
          rw [h1] at h1'
          cases h1'
          obtain ⟨rfl, hkk2⟩ := keyS_rp ry hkk
          cases h3' with
          | dT e r => cases r
          | @dK kvs _ e r =>
            have hl := r.len
            have hsz : kvs.length < sizeLine := by
              have := of_decide_eq_true (of_decide_eq_true hb.2)
              have : (1000000 : Nat) < sizeLine := by decide
              omega
            exact ⟨p, _, rfl, DPut.k e hsz, f2 _ _ _ (rel2.putOwn he h1 h2' rfl (.dK upd_same (putS_rp r hb.1 hkk2 (Rp.le p2.rd rv))))⟩
        · exact f2.elim
      · exact f2.elim
    · exact fin.elim⟩
/-- an expression as a statement, what is owned seen -/
def sExprV (m : Ev) : Sv := fun env => liftR (m (vis env)) fun _ => .nx env
theorem is_exprV (h : IE T ca X W e me) (hs : swapsWith e none pos.line X.env = pure false := by rfl) : IS T ca X W (.Expr e pos) (sExprV me) :=
  ⟨ps_imp (ps_expr h.pe hs) fun D σ H ⟨H0, S0, os, env, rel, fin⟩ => ⟨S0, vis env, rel.liveS, rel.visE, fin_hid (R := Rv X.K S0) rel fin fun d v H1 p rel1 rv f => f os σ H1 rel1⟩⟩
/-! ### sorted(d), d's keys texts -/
def strsOf : List (D × D) → Option (List Str)
  | [] => some []
  | (.str x, _) :: r => (strsOf r).map (x :: ·)
  | _ => none
/-- of at most two -/
def sort2 : List Str → Option (List Str)
  | [] => some []
  | [a] => some [a]
  | [a, b] => if sortedS [a, b] && !sortedS [b, a] then some [a, b] else if sortedS [b, a] && !sortedS [a, b] then some [b, a] else none
  | _ => none
theorem perm2 {a b : Str} {ys : List Str} (h : ys.Perm [a, b]) : ys = [a, b] ∨ ys = [b, a] := by
  have hl := h.length_eq
  match ys, hl with
  | [x, y], _ =>
    have hx : x ∈ [a, b] := h.mem_iff.mp List.mem_cons_self
    rcases List.mem_cons.mp hx with rfl | hx
    · have := (List.perm_cons x).mp h
      rw [List.perm_singleton.mp this]
      exact .inl rfl
    · cases List.mem_singleton.mp hx
      have := (List.perm_cons _).mp (h.trans (List.Perm.swap _ _ []))
      rw [List.perm_singleton.mp this]
      exact .inr rfl
theorem sort2_is {ks zs ys : List Str} (h : sort2 ks = some zs) (hp : ys.Perm ks) (hs : sortedS ys = true) : ys = zs := by
  match ks, h with
  | [], h => cases h; exact hp.eq_nil
  | [a], h => cases h; exact List.perm_singleton.mp hp
  | [a, b], h =>
    have h : (if sortedS [a, b] && !sortedS [b, a] then some [a, b] else if sortedS [b, a] && !sortedS [a, b] then some [b, a] else none) = some zs := h
    rcases perm2 hp with rfl | rfl
    · rw [hs] at h
      cases hb : sortedS [b, a] <;> rw [hb] at h <;> cases h
      rfl
    · rw [hs] at h
      cases hb : sortedS [a, b] <;> rw [hb] at h <;> cases h
      rfl
def gSortS : List D → Option D
  | [.dict es] => (strsOf es).bind fun ks => (sort2 ks).map fun zs => .list (zs.map .str)
  | _ => none
theorem strs_rp {K : PySem.W.Frag} {G : Hp} : ∀ {kvs : List (Key × V)} {es : List (D × D)} {ks : List Str}, RpK K G kvs es → strsOf es = some ks → kvs.map (·.1) = ks.map Sum.inr
  | _, _, _, .nil, e => by cases e; rfl
  | _, _, _, .cons (k := k) h r, e => by
    cases k with
    | inl i => cases e
    | inr x =>
      obtain ⟨ks, h1, rfl⟩ := Option.map_eq_some_iff.mp e
      rw [List.map_cons, List.map_cons, strs_rp r h1]
theorem strAll_rp {K : PySem.W.Frag} {G : Hp} : ∀ zs : List Str, RpAll K G (zs.map V.str) (zs.map PyData.str)
  | [] => .nil
  | z :: zs => .cons (.str z) (strAll_rp zs)
/-- return sorted(x), x a dict with texts as keys that the name builds up -/
def sRetSort (i : Nat) : Sv := fun env => match env[i]? with
  | some (some (.own (.dict ((.none, .none) :: es)))) => match gSortS [.dict es] with
    | some d => .ret d
    | none => .stuck
  | _ => .stuck
theorem is_retSort {i : Nat} {x : Str} {p px : Pos} (hm : X.mg "sorted" = none) (hc : X.calm = true := by rfl) (hg : Gl X "sorted" := by rfl) (hi : X.N[i]? = some x := by rfl) (hvis : Vis X.env.scope x := by first | exact Or.inl rfl | exact Or.inr (Or.inl rfl) | exact Or.inr (Or.inr rfl)) (hd : (x == ("__debug__" : Str)) = false := by decide) (hcd : (x == ("__classdict__" : Str)) = false := by decide)
    (he : starEach [.Name x px] X.env = (false, eval (.Name x px) X.env) :: starEach [] X.env := by rfl) (hpl : (backTo pos (starEach [] X.env)).any (·.1) = false := by rfl) :
    IS T ca X W (.Return (some (.Call (.Name "sorted" p) [.Name x px] [] pos)) pos') (sRetSort i) :=
  ⟨ps_imp (ps_ret (pe_callB (call_sortedD hc) hg hm (by decide +kernel) (pa_cons (pe_var hi hvis hd hcd) pa_nil he) (by decide) (by decide) he hpl)) fun D σ H ⟨H0, S0, os, env, rel, fin⟩ => by
    unfold sRetSort at fin
    split at fin
    · rename_i es he
      split at fin
      · rename_i z hz
        obtain ⟨q, h1, h2, h3⟩ := rel.own i _ he
        obtain ⟨ks, e1, e2⟩ := Option.bind_eq_some_iff.mp hz
        obtain ⟨zs, e3, rfl⟩ := Option.map_eq_some_iff.mp e2
        cases h3 with
        | dT e r => cases r
        | @dK kvs _ e r =>
          have hlen : ks.length < 64 := by
            match ks, e3 with
            | [], _ => decide
            | [_], _ => show 1 < 64; decide
            | [_, _], _ => show 2 < 64; decide
          refine ⟨.ref q, h1, q, kvs, ks, rfl, .inl e, strs_rp r e1, hlen, fun ys l hp hs hn => ?_⟩
          rw [sort2_is e3 hp hs]
          have hl : l ∉ S0 := (rel.lv.no hn) ∘ List.mem_append_right _
          exact fin _ _ (rel.pe.trans (.new hn)) (.lst (.inl (.inl ((hide_in hl).trans upd_same))) (strAll_rp zs))
      · exact fin.elim
    · exact fin.elim⟩
end
end IL
namespace IL
open PySem PySem.Spec PyProof.Rows L2
/-! ### what is read with the owned things in sight, and holds none of them -/
mutual
def flatT : D → Bool
  | .none => true
  | .bool _ => true
  | .int _ => true
  | .str _ => true
  | .tuple ds => flatTs ds
  | _ => false
def flatTs : List D → Bool
  | [] => true
  | d :: r => flatT d && flatTs r
end
section
variable {T : Gam} {K : PySem.W.Frag} {S0 os : List Addr} {H : Hp}
mutual
theorem flatT_rp (lv : LiveO (os ++ S0) H) : ∀ {v : V} {d : D}, Rp K (hide S0 H) v d → flatT d = true → Rp K (hide (os ++ S0) H) v d
  | _, _, .non, _ => .non
  | _, _, .bl b, _ => .bl b
  | _, _, .int i, _ => .int i
  | _, _, .str x, _ => .str x
  | _, _, .tup h r, f => .tup ((hide_in (lv.tup (hide_some h).2)).trans (hide_some h).2) (flatTs_rp lv r f)
  | _, _, .lst _ _, f => nomatch (show false = true from f)
  | _, _, .dT _ _, f => nomatch (show false = true from f)
  | _, _, .dK _ _, f => nomatch (show false = true from f)
  | _, _, .ob _ _ _ _, f => nomatch (show false = true from f)
theorem flatTs_rp (lv : LiveO (os ++ S0) H) : ∀ {vs : List V} {ds : List D}, RpAll K (hide S0 H) vs ds → flatTs ds = true → RpAll K (hide (os ++ S0) H) vs ds
  | _, _, .nil, _ => .nil
  | _, _, .cons h r, f => .cons (flatT_rp lv h (Bool.and_eq_true_iff.mp f).1) (flatTs_rp lv r (Bool.and_eq_true_iff.mp f).2)
end
end
def sOwnLV (i : Nat) (m : Env → Res (List D)) : Sv := fun env => liftR (m (vis env)) fun ds => if flatTs ds && big ds.length = true then .nx (env.set i (some (.own (.list ds)))) else .stuck
def sAppV (i : Nat) (m : Ev) : Sv := fun env => match env[i]? with
  | some (some (.own (.list ds))) => liftR (m (vis env)) fun d => if flatT d && big ds.length = true then .nx (env.set i (some (.own (.list (ds ++ [d]))))) else .stuck
  | _ => .stuck
section
variable {T : Gam} {ca : XC → Addr} {X : Cx} {W : WX} {e : Expr} {es : List Expr} {pos pos' : Pos} {me : Ev} {ms : Env → Res (List D)}
theorem is_ownLV {i : Nat} {x : Str} {lp : Pos} (hN : X.N.Nodup) (h : IA T ca X W es ms) (hi : X.N[i]? = some x := by rfl) (hx : Loc X.env.scope x := by first | exact Or.inl rfl | exact Or.inr rfl) (hs : swapsWith (.List es lp) (some (.Name x pos')) pos.line X.env = pure false := by rfl) (hf : X.fn x = true ∨ X.env.scope.names.lookup x = some .local := by first | exact .inl rfl | exact .inr rfl) :
    IS T ca X W (.Assign [.Name x pos'] (.List es lp) pos) (sOwnLV i ms) :=
  ⟨ps_imp (ps_set hN hi hx (pe_lst h.pa) hs hf) fun D σ H ⟨H0, S0, os, env, rel, fin⟩ => ⟨S0, vis env, rel.liveS, rel.visE, fin_hid (R := Ra X.K S0) rel fin fun ds vs H1 p rel1 rv f => by
    split at f
    · rename_i hb
      rw [Bool.and_eq_true] at hb
      have rv' := flatTs_rp rel1.lv.own rv hb.1
      exact ⟨by rw [RpAll.length rv']; exact big_ok (of_decide_eq_true hb.2), fun q hq => f _ _ _ (rel1.newOwn hq rfl (.lst upd_same rv') i)⟩
    · exact f.elim⟩⟩
theorem is_appV {i : Nat} {x : Str} {px apos cpos : Pos} (h : IE T ca X W e me) (hi : X.N[i]? = some x := by rfl) (hv : Vis X.env.scope x := by first | exact Or.inl rfl | exact Or.inr (Or.inl rfl) | exact Or.inr (Or.inr rfl)) (hd : (x == ("__debug__" : Str)) = false := by decide) (hcd : (x == ("__classdict__" : Str)) = false := by decide)
    (hst : starEach [e] X.env = (false, eval e X.env) :: starEach [] X.env := by rfl) (hpl : (backTo cpos (starEach [] X.env)).any (·.1) = false := by rfl) (hbase : attributeBase (.Name x px) "append" X.env (eval (.Name x px) X.env) = eval (.Name x px) X.env := by rfl) (hline : (apos.endLine == cpos.line) = true := by rfl) (hs : swapsWith (.Call (.Attribute (.Name x px) "append" apos) [e] [] cpos) none pos.line X.env = pure false := by rfl) :
    IS T ca X W (.Expr (.Call (.Attribute (.Name x px) "append" apos) [e] [] cpos) pos) (sAppV i me) :=
  ⟨ps_imp (ps_expr (pe_bm PySem.F.plainAttrs_list PySem.F.slot_list_append PySem.F.type_list_append mt_append (pe_var hi hv hd hcd) (pa_cons h.pe pa_nil hst) (hbase := hbase) (hline := hline) (hs := hst) (hfew := by rw [hst]; rfl)) hs) fun D σ H ⟨H0, S0, os, env, rel, fin⟩ => by
    unfold sAppV at fin
    split at fin
    · rename_i ds he
      obtain ⟨p, h1, h2, h3⟩ := rel.own i _ he
      cases h3 with
      | lst e r =>
        refine ⟨.ref p, h1, .inl ⟨rfl, _, .inl (.inl e)⟩, S0, vis env, rel.liveS, rel.visE, fin_hid (R := Rv X.K S0) rel fin fun d v H1 p1 rel1 rv f => ?_⟩
        split at f
        · rename_i hb
          rw [Bool.and_eq_true] at hb
          obtain ⟨q, g1, g2, g3⟩ := rel1.own i _ he
          rw [h1] at g1
          cases g1
          cases g3 with
          | @lst vs' _ g4 g5 =>
            refine ⟨p, vs', v, rfl, rfl, g4, ?_, f _ _ _ (rel1.putOwn he h1 g2 rfl (.lst upd_same (g5.app (.cons (flatT_rp rel1.lv.own rv hb.1) .nil))))⟩
            have := g5.length
            have := of_decide_eq_true (of_decide_eq_true hb.2)
            have : (1000000 : Nat) < sizeLine := by decide
            omega
        · exact f.elim
    · exact fin.elim⟩
end
end IL
namespace IL
open PySem PySem.Spec PyProof.Rows L2
/-! ### methods of the class Looks, called on the datum of an instance -/
structure LooksC (K : PySem.W.Frag) (C : Addr) : Prop where
  g : PySem.W.nsIn K mainGlobals "Looks" = some (some (.ref C))
  cls : Cls K C
  noT : NoAttr K C "terms"
structure FnM (T : Gam) (ca : XC → Addr) (P : Program) (w : World) (K : PySem.W.Frag) (mg : Str → Option Value) (base : Heap) (k : Nat) (C : Addr) (m : Str) (n : Nat) (g : List D → Res D) : Prop where
  ex : ∃ (f : Addr) (fd : FuncData) (ps : List Str), ps.length = n ∧ FnOk P w K mg base (L2N.CX P w) k f fd ps (SpD T ca K n g) ∧ Meth K C m f ∧ Binds K fd ps []
def mMeth (n : Nat) (g : List D → Res D) (o : Ev) (a : Env → Res (List D)) : Ev := fun env => (o env).bind fun d => if isOb d = true then (a env).bind fun ds => if ds.length + 1 = n then g (d :: ds) else .stuck else .stuck
section
variable {T : Gam} {ca : XC → Addr} {X : Cx} {W : WX} {o e a b : Expr} {es : List Expr} {pos apos p2 : Pos} {mo ma : Ev} {ms : Env → Res (List D)}
/-- where the instance stands -/
theorem ob_rp {K : PySem.W.Frag} {G : Hp} {v : V} {d : D} (h : Rp K G v d) (hd : isOb d = true) : ∃ (x t kn dn : Addr) (kvs : List (Key × V)) (es : List (D × D)) (fresh : Bool), v = .ref x ∧ d = obD es fresh ∧ ObAt K G x t kn dn ∧ Rd G t (.dK kvs) ∧ RpK K G kvs es := by
  cases h with
  | ob h ht r hf => exact ⟨_, _, _, _, _, _, _, rfl, rfl, h, ht, r⟩
  | dT h r =>
    cases r with
    | nil => cases hd
    | cons h r => cases hd
  | dK h r =>
    cases r with
    | nil => cases hd
    | @cons k _ _ _ _ h r => cases k <;> cases hd
  | _ => cases hd
theorem ie_meth {C : Addr} {j k n : Nat} {m : Str} {g : List D → Res D} {pl : Sem Bool} (L : LooksC X.K C) (F : FnM T ca X.prog X.w X.K X.mg X.base k C m n g) (hr : Room j X.A) (hk : k ≤ j) (tk : L2N.Takes X W) (ho : IE T ca X W o mo) (ha : IA T ca X W (e :: es) ms)
    (hm : ([("now", V.non), ("terms", V.non), ("known", V.non), ("done", V.non)] : List (Str × V)).lookup m = none := by rfl)
    (hst : starEach (e :: es) X.env = (false, eval e X.env) :: starEach es X.env := by rfl) (hpl : (backTo pos (starEach es X.env)).any (·.1) = false := by rfl)
    (ht : eval (.Call (.Attribute o m apos) (e :: es) [] pos) X.env = (do
      let ov ← eval o X.env
      standAt apos.atName
      let (f, first) ← holding [ov] (getMethod ov m pl)
      callWith pos f first (backTo pos (starEach (e :: es) X.env)) (backToKw pos (keywordEach [] X.env))) := by rfl) :
    IE T ca X W (.Call (.Attribute o m apos) (e :: es) [] pos) (mMeth n g mo ms) := by
  obtain ⟨f, fd, ps, hn, F', M, hb⟩ := F.ex
  refine ⟨⟨fun pins s σ H Q I ⟨S, env, lv, rel, fin⟩ => ?_⟩⟩
  refine PySem.W.methodCall_KW (pl := pl) (thn (ho.pe.run pins s σ H (fun v H1 => ∃ d, Pe T H H1 ∧ Rp X.K (hide S H1) v d ∧ isOb d = true ∧ Fin T ca (Rv X.K S) W σ H1 ((ms env).bind fun ds => if ds.length + 1 = n then g (d :: ds) else .stuck) Q) I ⟨S, env, lv, rel, ?_⟩) fun u s1 ⟨x, H1, I1, rx, d, p1, r1, hd, f1⟩ => ?_) ht
  · refine Fin.bind (R' := Rv X.K S) fin fun d v H1 _ p1 r1 f1 => ?_
    split at f1
    · exact ⟨d, p1, r1, by assumption, f1⟩
    · exact f1.elim
  · obtain ⟨a, t, kn, dn, kvs, es', fresh, rfl, rfl, ob, _, _⟩ := ob_rp r1 hd
    obtain ⟨C', dx, nn, e1, e2⟩ := ob.ex
    have hC : C' = C := by
      have := e1.symm.trans L.g
      cases this
      rfl
    subst hC
    obtain rfl : u = Value.ref a := rx
    have hfs : ([("now", V.ref nn), ("terms", .ref t), ("known", .ref kn), ("done", .ref dn)] : List (Str × V)).lookup m = none := by
      simp only [List.lookup] at hm ⊢
      revert hm
      repeat' split
      all_goals first | (intro h; cases h; done) | (intro _; rfl)
    refine getmeth_ok I1 (hide_some e2).2 L.cls M hfs ?_
    refine PySem.W.callWith_K (first := [.ref a]) (h₀ := X.base) I.ok.mod.kin M.kp (thn (ha.pa.run pos pins s1 σ H1 (fun vs H2 => vs.length + 1 = n ∧ ∃ ds, RpAll X.K (hide S H2) vs ds ∧ Pe T H1 H2 ∧ Fin T ca (Rv X.K S) W σ H2 (g (obD es' fresh :: ds)) Q) I1 ⟨S, env, lv.le p1, rel.le p1, ?_⟩) fun us s2 ⟨vs, H2, I2, r, hl, ds, rr, p2, f2⟩ => ⟨I2.kIn, ?_⟩) hst hpl
    · refine Fin.bind (R' := Ra X.K S) f1 fun ds vs H2 _ p2 r2 f2 => ?_
      split at f2
      · rename_i hl
        exact ⟨by rw [RpAll.length r2]; exact hl, ds, r2, p2, f2⟩
      · exact f2.elim
    · refine run_fnS (E := WE W) (us := .ref a :: us) (vs := .ref a :: vs) F' (hr.mono hk) hb (L2N.passAt tk σ) I2 (.cons rfl r) ⟨hl, S, _, (lv.le p1).le p2, .cons (Rp.le p2.rd r1) rr, ?_⟩
      exact fin_W f2 fun c H' _ z => z
end
end IL
namespace IL
open PySem PySem.Spec PyProof.Rows L2
/-! ### self.terms -/
def valS (es : List (D × D)) (k : Key) : Option D := (es.find? fun e => decide (keyS e.1 = some k)).map (·.2)
def termsOf : D → Option (List (D × D))
  | .dict [(.none, .tuple [.dict es, .bool _])] => if strKeys es = true then some es else none
  | _ => none
def gInOb (neg : Bool) (z o : D) : Option D := (keyS z).bind fun k => (termsOf o).map fun es => .bool (if neg then !(valS es k).isSome else (valS es k).isSome)
def gNames (o : D) : Option D := (termsOf o).map fun es => .list (es.map (·.1))
section
variable {T : Gam} {ca : XC → Addr} {X : Cx} {W : WX} {o e a b : Expr} {es : List Expr} {pos apos p2 : Pos} {mo ma : Ev} {ms : Env → Res (List D)}
theorem termsOf_is {d : D} {es : List (D × D)} (h : termsOf d = some es) : strKeys es = true ∧ ∃ fresh, d = obD es fresh := by
  unfold termsOf at h
  split at h
  · split at h
    · cases h
      exact ⟨by assumption, _, rfl⟩
    · cases h
  · cases h
theorem valS_rp {K : PySem.W.Frag} {G : Hp} {k : Key} (hk : keyS (kD k) = some k) : ∀ {kvs : List (Key × V)} {es : List (D × D)}, RpK K G kvs es → strKeys es = true → (valV kvs k).isSome = (valS es k).isSome
  | _, _, .nil, _ => rfl
  | _, _, .cons (k := k') (v := v) (kvs := kvs) (d := d) (es := es) h r, hs => by
    rw [strKeys, List.all_cons, Bool.and_eq_true] at hs
    have ih := valS_rp hk r hs.2
    cases k' with
    | inl i => cases hs.1
    | inr x =>
      by_cases e : (Sum.inr x : Key) = k
      · have h1 : valV ((Sum.inr x, v) :: kvs) k = some v := by
          show (((Sum.inr x, v) :: kvs).find? fun kv => decide (kv.1 = k)).map (·.2) = _
          rw [List.find?_cons_of_pos (by simpa using e)]
          rfl
        have h2 : valS ((kD (Sum.inr x), d) :: es) k = some d := by
          show (((kD (Sum.inr x), d) :: es).find? fun e => decide (keyS e.1 = some k)).map (·.2) = _
          rw [List.find?_cons_of_pos (by rw [← e]; simp [keyS, kD])]
          rfl
        rw [h1, h2]
        rfl
      · have h1 : valV ((Sum.inr x, v) :: kvs) k = valV kvs k := by
          show (((Sum.inr x, v) :: kvs).find? fun kv => decide (kv.1 = k)).map (·.2) = _
          rw [List.find?_cons_of_neg (by simpa using e)]
          rfl
        have h2 : valS ((kD (Sum.inr x), d) :: es) k = valS es k := by
          show (((kD (Sum.inr x), d) :: es).find? fun e => decide (keyS e.1 = some k)).map (·.2) = _
          rw [List.find?_cons_of_neg (by simpa [keyS, kD] using e)]
          rfl
        rw [h1, h2]
        exact ih
theorem keys_rp2 {K : PySem.W.Frag} {G : Hp} : ∀ {kvs : List (Key × V)} {es : List (D × D)}, RpK K G kvs es → RpAll K G (kvs.map fun kv => kV kv.1) (es.map (·.1))
  | _, _, .nil => .nil
  | _, _, .cons h r => .cons (rp_kD _) (keys_rp2 r)
/-- self.terms, read -/
theorem terms_pre {C : Addr} {S : List Addr} {env : IL.Env} {σ : L2.St} {H : Hp} {Q : VK} {g : D → Option D} (L : LooksC X.K C) (lv : Live T S H) (rel : RelE X.K (hide S H) env σ) (fin : Fin T ca (Rv X.K S) W σ H (m1 g mo env) Q) (hg : ∀ d z, g d = some z → ∃ es, termsOf d = some es)
    {Q' : VK} (h : ∀ (t : Addr) (kvs : List (Key × V)) (es : List (D × D)) (d z : D) (H1 : Hp), Live T S H1 → termsOf d = some es → g d = some z → Rd H1 t (.dK kvs) → RpK X.K (hide S H1) kvs es → Wants T X.K S H1 z Q → Q' (.ref t) H1) : tFld X.K (tI T ca X.K W mo) "terms" σ H Q' :=
  ⟨S, env, lv, rel, Fin.bind (R' := Rv X.K S) fin fun d v H1 _ p1 r1 f1 => by
    obtain ⟨z, hz, w⟩ := f1.some
    obtain ⟨es, he⟩ := hg d z hz
    obtain ⟨_, fr, rfl⟩ := termsOf_is he
    obtain ⟨a, t, kn, dn, kvs, es', fr', rfl, e1, ob, ht, r⟩ := ob_rp r1 rfl
    cases e1
    obtain ⟨C', dx, nn, e1, e2⟩ := ob.ex
    have hC : C' = C := by
      have := e1.symm.trans L.g
      cases this
      rfl
    subst hC
    exact ⟨a, C', dx, _, .ref t, rfl, (hide_some e2).2, L.cls, L.noT, rfl, h t kvs es _ z H1 (lv.le p1) he hz (rd_hide ht) r w⟩⟩
def mInOb (neg : Bool) (a o : Ev) : Ev := fun env => (a env).bind fun z => (o env).bind fun d => ofO (gInOb neg z d)
theorem inOb_pre {C : Addr} {S : List Addr} {env : IL.Env} {σ : L2.St} {H : Hp} {Q : VK} {neg : Bool} (L : LooksC X.K C) (lv : Live T S H) (rel : RelE X.K (hide S H) env σ) (fin : Fin T ca (Rv X.K S) W σ H (mInOb neg ma mo env) Q) :
    tI T ca X.K W ma σ H fun y H1 => tFld X.K (tI T ca X.K W mo) "terms" σ H1 fun x H2 => ∃ a r, x = .ref a ∧ DGet H2 a y r ∧ Q (.bl (if neg then !r.isSome else r.isSome)) H2 :=
  ⟨S, env, lv, rel, Fin.bind (R' := Rv X.K S) fin fun z v H1 _ p1 r1 f1 => by
    refine terms_pre (g := gInOb neg z) L (lv.le p1) (rel.le p1) f1 (fun d y hy => ?_) fun t kvs es d y H2 lv2 he hy ht r w => ?_
    · obtain ⟨k, hk, h2⟩ := Option.bind_eq_some_iff.mp hy
      obtain ⟨es, h3, _⟩ := Option.map_eq_some_iff.mp h2
      exact ⟨es, h3⟩
    · obtain ⟨k, hk, h2⟩ := Option.bind_eq_some_iff.mp hy
      obtain ⟨es', h3, rfl⟩ := Option.map_eq_some_iff.mp h2
      rw [he] at h3
      cases h3
      obtain ⟨rfl, hk2⟩ := keyS_rp r1 hk
      refine ⟨t, valV kvs k, rfl, .inl ⟨kvs, k, ht, rfl, rfl⟩, ?_⟩
      rw [valS_rp hk2 r (termsOf_is he).1]
      exact Wants.bl (T := T) (K := X.K) (S := S) w⟩
theorem ie_inTerms {C : Addr} (hu : X.A.units + 64 < cLine) (L : LooksC X.K C) (ha : IE T ca X W a ma) (ho : IE T ca X W o mo) (hb : attributeBase o "terms" X.env (eval o X.env) = eval o X.env := by rfl) (h1 : behindInMarks .In (.Attribute o "terms" apos) = false := by rfl) : IE T ca X W (.Compare a [.In] [.Attribute o "terms" apos] pos) (mInOb false ma mo) :=
  ⟨pe_imp (pe_cmp (pc_din (by omega) ha.pe (pe_fld ho.pe hb)) h1) fun σ H Q ⟨S, env, lv, rel, fin⟩ => inOb_pre (neg := false) L lv rel fin⟩
theorem ie_notInTerms {C : Addr} (hu : X.A.units + 64 < cLine) (L : LooksC X.K C) (ha : IE T ca X W a ma) (ho : IE T ca X W o mo) (hb : attributeBase o "terms" X.env (eval o X.env) = eval o X.env := by rfl) (h1 : behindInMarks .NotIn (.Attribute o "terms" apos) = false := by rfl) : IE T ca X W (.Compare a [.NotIn] [.Attribute o "terms" apos] pos) (mInOb true ma mo) :=
  ⟨pe_imp (pe_cmp (pc_dnotin (by omega) ha.pe (pe_fld ho.pe hb)) h1) fun σ H Q ⟨S, env, lv, rel, fin⟩ => inOb_pre (neg := true) L lv rel fin⟩
/-- list(self.terms) -/
theorem ie_listTerms {C : Addr} {p : Pos} (L : LooksC X.K C) (hm : X.mg "list" = none) (ho : IE T ca X W o mo) (hc : X.calm = true := by rfl) (hg : Gl X "list" := by rfl) (hb : attributeBase o "terms" X.env (eval o X.env) = eval o X.env := by rfl)
    (hs : starEach [.Attribute o "terms" apos] X.env = (false, eval (.Attribute o "terms" apos) X.env) :: starEach [] X.env := by rfl) (hpl : (backTo pos (starEach [] X.env)).any (·.1) = false := by rfl) : IE T ca X W (.Call (.Name "list" p) [.Attribute o "terms" apos] [] pos) (m1 gNames mo) :=
  ⟨pe_imp (pe_callTy (call_listD hc) hg hm (by decide +kernel) (pa_cons (pe_fld ho.pe hb) pa_nil hs) (by decide) (by decide) hs hpl) fun σ H Q ⟨S, env, lv, rel, fin⟩ => terms_pre (g := gNames) L lv rel fin (fun d z hz => let ⟨es, h, _⟩ := Option.map_eq_some_iff.mp hz; ⟨es, h⟩) fun t kvs es d z H1 lv1 he hz ht r w => by
    obtain ⟨es', h3, rfl⟩ := Option.map_eq_some_iff.mp hz
    rw [he] at h3
    cases h3
    exact ⟨t, kvs, rfl, ht, fun p hp => w.nlst lv1 (keys_rp2 r) p hp⟩⟩
end
end IL
namespace IL
open PySem PySem.Spec PyProof.Rows L2
/-! ### a method by its body's rule -/
structure FunMt (K : PySem.W.Frag) (C : Addr) (m qual : Str) (st : Stmt) (ps : List Str) : Prop where
  ex : ∃ f fd, L2.Fun K m qual st f fd ∧ Meth K C m f ∧ Binds K fd ps []
section
variable {T : Gam} {ca : XC → Addr} {P : Program} {w : World} {K : PySem.W.Frag} {mg : Str → Option Value} {base : Heap} {C : Addr} {x qual : Str} {st : Stmt} {N ps : List Str} {k n : Nat} {m : Sv}
theorem fn_okQ {f : Addr} {fd : FuncData} (F : L2.Fun K x qual st f fd) (S : FnScope N ps (defScope st)) 
    (hbody : ∀ (cdv : Value) (A : Around) (outer : List PySem.Env) (s : Shared) (H : Hp) (E : XK), Room k (A.deeper (envOfC qual (defScope st) s.heap.objs.size f cdv)) →
      ISs T ca (cxOf (L2N.CX P w) P w K mg base N qual (defScope st) f cdv A outer s H E) (fun c d _ H => E c d H) (defBody st) m) : FnOk P w K mg base (L2N.CX P w) (k + 1) f fd ps (SpD T ca K ps.length fun ds => outR (m (startE N.length ds))) := by
  obtain ⟨oc, od, kV, doc, pm, an, cdv, ct, osl, rfl, lk, hcd⟩ := F.ex
  refine fn_of lk hcd S (fun vs H Q E h => h.1) fun A outer s H vs Q E hr ⟨hl, S0, ds, lv, rr, fin⟩ => ⟨_, (hbody cdv A outer s H E hr).ps, H, S0, [], startE N.length ds, start_rel lv rr, ?_⟩
  have fin : Fin T ca (Rv K S0) (fun c d _ H' => E c d H') [] H (outR (m (startE N.length ds))) Q := fin
  cases hm : m (startE N.length ds) with
  | nx e => rw [hm] at fin; exact fun os σ H' r => fin .non H' r.pe .non
  | ret d => rw [hm] at fin; exact fun v H' p r => fin v H' p r
  | exc c => rw [hm] at fin; exact fun σ H' p => fin H' p
  | brk e => rw [hm] at fin; exact fin.elim
  | ct e => rw [hm] at fin; exact fin.elim
  | stuck => rw [hm] at fin; exact fin.elim
theorem fn_mt (U : FunMt K C x qual st ps) (hn : ps.length = n) (S : FnScope N ps (defScope st))
    (hbody : ∀ (f : Addr) (cdv : Value) (A : Around) (outer : List PySem.Env) (s : Shared) (H : Hp) (E : XK), Room k (A.deeper (envOfC qual (defScope st) s.heap.objs.size f cdv)) →
      ISs T ca (cxOf (L2N.CX P w) P w K mg base N qual (defScope st) f cdv A outer s H E) (fun c d _ H => E c d H) (defBody st) m) : FnM T ca P w K mg base (k + 1) C x n fun ds => outR (m (startE N.length ds)) := by
  obtain ⟨f, fd, F, M, hb⟩ := U.ex
  subst hn
  exact ⟨f, fd, ps, rfl, fn_okQ F S fun cdv A outer s H E hr => hbody f cdv A outer s H E hr, M, hb⟩
end
def mMeth0 (g : List D → Res D) (o : Ev) : Ev := fun env => (o env).bind fun d => if isOb d = true then g [d] else .stuck
section
variable {T : Gam} {ca : XC → Addr} {X : Cx} {W : WX} {o : Expr} {pos apos : Pos} {mo : Ev}
theorem ie_meth0 {C : Addr} {j k : Nat} {m : Str} {g : List D → Res D} {pl : Sem Bool} (L : LooksC X.K C) (F : FnM T ca X.prog X.w X.K X.mg X.base k C m 1 g) (hr : Room j X.A) (hk : k ≤ j) (tk : L2N.Takes X W) (ho : IE T ca X W o mo)
    (hm : ([("now", V.non), ("terms", V.non), ("known", V.non), ("done", V.non)] : List (Str × V)).lookup m = none := by rfl)
    (ht : eval (.Call (.Attribute o m apos) [] [] pos) X.env = (do
      let ov ← eval o X.env
      standAt apos.atName
      let (f, first) ← holding [ov] (getMethod ov m pl)
      callWith pos f first (backTo pos (starEach [] X.env)) (backToKw pos (keywordEach [] X.env))) := by rfl) :
    IE T ca X W (.Call (.Attribute o m apos) [] [] pos) (mMeth0 g mo) := by
  obtain ⟨f, fd, ps, hn, F', M, hb⟩ := F.ex
  refine ⟨⟨fun pins s σ H Q I ⟨S, env, lv, rel, fin⟩ => ?_⟩⟩
  refine PySem.W.methodCall_KW (pl := pl) (thn (ho.pe.run pins s σ H (fun v H1 => ∃ d, Pe T H H1 ∧ Rp X.K (hide S H1) v d ∧ isOb d = true ∧ Fin T ca (Rv X.K S) W σ H1 (g [d]) Q) I ⟨S, env, lv, rel, ?_⟩) fun u s1 ⟨x, H1, I1, rx, d, p1, r1, hd, f1⟩ => ?_) ht
  · refine Fin.bind (R' := Rv X.K S) fin fun d v H1 _ p1 r1 f1 => ?_
    split at f1
    · exact ⟨d, p1, r1, by assumption, f1⟩
    · exact f1.elim
  · obtain ⟨a, t, kn, dn, kvs, es', fresh, rfl, rfl, ob, _, _⟩ := ob_rp r1 hd
    obtain ⟨C', dx, nn, e1, e2⟩ := ob.ex
    have hC : C' = C := by
      have := e1.symm.trans L.g
      cases this
      rfl
    subst hC
    obtain rfl : u = Value.ref a := rx
    have hfs : ([("now", V.ref nn), ("terms", .ref t), ("known", .ref kn), ("done", .ref dn)] : List (Str × V)).lookup m = none := by
      simp only [List.lookup] at hm ⊢
      revert hm
      repeat' split
      all_goals first | (intro h; cases h; done) | (intro _; rfl)
    refine getmeth_ok I1 (hide_some e2).2 L.cls M hfs ?_
    exact PySem.W.callWith_K0 (first := [.ref a]) I1.kIn M.kp (run_fnS (E := WE W) (us := [.ref a]) (vs := [.ref a]) F' (hr.mono hk) hb (L2N.passAt tk σ) I1 (.cons rfl .nil) ⟨rfl, S, [_], lv.le p1, .cons r1 .nil, fin_W f1 fun c H' _ z => z⟩)
end
end IL
namespace K20
open PySem PySem.Spec PyProof.Rows L2 IL
def top (i : Nat) : Stmt := PySem.Challenge.pw_lookhouse_k20_terms_refused.main.body.getD i (.Pass ⟨0, 0, 0, 0⟩)
def clsBody : Stmt → List Stmt
  | .ClassDef _ _ _ b _ _ _ _ _ _ _ => b
  | _ => []
def reads : List Str := ["at", "there", "sum", "many"]
def twos : List Str := ["plus", "less", "times", "same", "below"]
/-- what the top has written: numbers, texts, refusals; no name of a built-in is hidden -/
structure Gl (ca : XC → Addr) (K : PySem.W.Frag) (w : World) (mg : Str → Option Value) : Prop where
  g_MOST_WORD : ∃ t, mg "MOST_WORD" = some (.int 6 t)
  g_MOST_DEEP : ∃ t, mg "MOST_DEEP" = some (.int 4 t)
  g_MOST_WORTH_states : ∃ t, mg "MOST_WORTH_states" = some (.int 1000000000 t)
  g_MOST_NUMBER : ∃ t, mg "MOST_NUMBER" = some (.int 1000000000 t)
  g_MOST_WITHIN : ∃ t, mg "MOST_WITHIN" = some (.int 8 t)
  g_SMALL : ∃ t, mg "SMALL" = some (.str "abcdefghijklmnopqrstuvwxyz" t)
  s_READING : KStrs K mg "READING" reads
  s_TWO : KStrs K mg "TWO" twos
  r_BadLook : RsOk K mg ca .look "BadLook"
  r_BadPath : RsOk K mg ca .path "BadPath"
  r_BadState : RsOk K mg ca .state "BadState"
  b_isinstance : mg "isinstance" = none
  b_str : mg "str" = none
  b_tuple : mg "tuple" = none
  b_dict : mg "dict" = none
  b_int : mg "int" = none
  b_bool : mg "bool" = none
  b_len : mg "len" = none
  b_abs : mg "abs" = none
  b_all : mg "all" = none
  b_any : mg "any" = none
  b_sum : mg "sum" = none
  b_max : mg "max" = none
  b_min : mg "min" = none
  b_range : mg "range" = none
  b_sorted : mg "sorted" = none
  b_list : mg "list" = none
section
variable {T : Gam} {ca : XC → Addr} {P : Program} {w : World} {K : PySem.W.Frag} {mg : Str → Option Value} {base : Heap}
abbrev s_is_word : Stmt := top 13
abbrev n_is_word : List Str := ["thing", "sign"]
theorem sc_is_word : FnScope n_is_word ["thing"] (defScope s_is_word) := ⟨rfl, rfl, rfl, by decide +kernel, rfl, by decide +kernel, by decide +kernel⟩
def m_is_word : Sv := (sRet (mAndV (m1 (gIsi "str") (mVar 0)) (mAndV (mChain gLe gLe (mC (.int 1)) (mB gLen (mCons (mVar 0) mNil)) (mC (.int 6))) (mB gAll (mCons (mComp (mItems strOf (mVar 0)) 1 mYes (m2 gInS (mVar 1) (mC (.str "abcdefghijklmnopqrstuvwxyz")))) mNil)))))
def g_is_word : List D → Res D := fun ds => outR (m_is_word (startE 2 ds))
theorem ok_is_word (G : Gl ca K w mg) (U : FunAs K mg "is_word" "is_word" s_is_word ["thing"])  : FnD T ca P w K mg base 1 "is_word" 1 g_is_word := fn_as U rfl sc_is_word fun f cdv A outer s H E hr => by
  have hu := hu_at hr
  have tk : L2N.Takes (cxOf (L2N.CX P w) P w K mg base n_is_word "is_word" (defScope s_is_word) f cdv A outer s H E) (fun c d _ H => E c d H) := L2N.takes_of rfl rfl rfl rfl
  unfold m_is_word
  exact (iss_one (is_ret (ie_and (ie_isi (by decide +kernel) (ie_var (i := 0)) G.b_str G.b_isinstance) (ie_and (ie_chain op_le op_le imp_le imp_le ie_int (ie_callB call_lenG imp_len (by decide +kernel) G.b_len (ia_cons (ie_var (i := 0)) ia_nil)) (ie_gi G.g_MOST_WORD)) (ie_one (ie_callB (cr_all rfl) imp_all (by decide +kernel) G.b_all (ia_cons (ie_comp (j := 1) sc_is_word.nd (ii_str (ie_var (i := 0))) (by show blkC n_is_word (defScope s_is_word) _ _ = true; decide +kernel) (fun _ _ _ _ _ => pg_name sc_is_word.nd rfl (Or.inl rfl) (.inr rfl)) (fun _ _ _ _ _ => its_nil) (fun _ _ _ _ _ => (ie_cmp op_in_sign imp_inS (ie_var (i := 1)) (ie_gs G.g_SMALL)))) ia_nil)))))))
abbrev s_is_path : Stmt := top 14
abbrev n_is_path : List Str := ["thing", "word"]
theorem sc_is_path : FnScope n_is_path ["thing"] (defScope s_is_path) := ⟨rfl, rfl, rfl, by decide +kernel, rfl, by decide +kernel, by decide +kernel⟩
def m_is_path : Sv := (sRet (mAndV (m1 (gIsi "tuple") (mVar 0)) (mAndV (m2 gLe (mB gLen (mCons (mVar 0) mNil)) (mC (.int 4))) (mB gAll (mCons (mComp (mItems tupOf (mVar 0)) 1 mYes (mCallN 1 g_is_word (mCons (mVar 1) mNil))) mNil)))))
def g_is_path : List D → Res D := fun ds => outR (m_is_path (startE 2 ds))
theorem ok_is_path (G : Gl ca K w mg) (U : FunAs K mg "is_path" "is_path" s_is_path ["thing"]) (F_is_word : FnD T ca P w K mg base 1 "is_word" 1 g_is_word) : FnD T ca P w K mg base 2 "is_path" 1 g_is_path := fn_as U rfl sc_is_path fun f cdv A outer s H E hr => by
  have hu := hu_at hr
  have tk : L2N.Takes (cxOf (L2N.CX P w) P w K mg base n_is_path "is_path" (defScope s_is_path) f cdv A outer s H E) (fun c d _ H => E c d H) := L2N.takes_of rfl rfl rfl rfl
  unfold m_is_path
  exact (iss_one (is_ret (ie_and (ie_isi (by decide +kernel) (ie_var (i := 0)) G.b_tuple G.b_isinstance) (ie_and (ie_cmp op_le imp_le (ie_callB call_lenG imp_len (by decide +kernel) G.b_len (ia_cons (ie_var (i := 0)) ia_nil)) (ie_gi G.g_MOST_DEEP)) (ie_one (ie_callB (cr_all rfl) imp_all (by decide +kernel) G.b_all (ia_cons (ie_comp (j := 1) sc_is_path.nd (ii_tup (ie_var (i := 0))) (by show blkC n_is_path (defScope s_is_path) _ _ = true; decide +kernel) (fun _ _ _ _ _ => pg_name sc_is_path.nd rfl (Or.inl rfl) (.inr rfl)) (fun _ _ _ _ _ => its_nil) (fun _ _ _ _ _ => (ie_call F_is_word hr (by decide) tk0 (ia_cons (ie_var (i := 1)) ia_nil)))) ia_nil)))))))
abbrev s_need_name : Stmt := top 15
abbrev n_need_name : List Str := ["name"]
theorem sc_need_name : FnScope n_need_name ["name"] (defScope s_need_name) := ⟨rfl, rfl, rfl, by decide +kernel, rfl, by decide +kernel, by decide +kernel⟩
def m_need_name : Sv := (sIf (mNot (mT (mCallN 1 g_is_word (mCons (mVar 0) mNil)))) (sRaise .path) mSkip)
def g_need_name : List D → Res D := fun ds => outR (m_need_name (startE 1 ds))
theorem ok_need_name (G : Gl ca K w mg) (U : FunAs K mg "need_name" "need_name" s_need_name ["name"]) (F_is_word : FnD T ca P w K mg base 1 "is_word" 1 g_is_word) : FnD T ca P w K mg base 2 "need_name" 1 g_need_name := fn_as U rfl sc_need_name fun f cdv A outer s H E hr => by
  have hu := hu_at hr
  have tk : L2N.Takes (cxOf (L2N.CX P w) P w K mg base n_need_name "need_name" (defScope s_need_name) f cdv A outer s H E) (fun c d _ H => E c d H) := L2N.takes_of rfl rfl rfl rfl
  unfold m_need_name
  exact (iss_one (is_if (it_not (it_val (ie_call F_is_word hr (by decide) tk (ia_cons (ie_var (i := 0)) ia_nil)))) (iss_one (is_rs G.r_BadPath tk)) iss_nil))
abbrev s_is_number : Stmt := top 16
abbrev n_is_number : List Str := ["thing", "most"]
theorem sc_is_number : FnScope n_is_number ["thing", "most"] (defScope s_is_number) := ⟨rfl, rfl, rfl, by decide +kernel, rfl, by decide +kernel, by decide +kernel⟩
def m_is_number : Sv := (sRet (mAndV (m1 (gIsi "int") (mVar 0)) (mAndV (mNotV (m1 (gIsi "bool") (mVar 0))) (m2 gLe (mB gAbs (mCons (mVar 0) mNil)) (mVar 1)))))
def g_is_number : List D → Res D := fun ds => outR (m_is_number (startE 2 ds))
theorem ok_is_number (G : Gl ca K w mg) (U : FunAs K mg "is_number" "is_number" s_is_number ["thing", "most"])  : FnD T ca P w K mg base 1 "is_number" 2 g_is_number := fn_as U rfl sc_is_number fun f cdv A outer s H E hr => by
  have hu := hu_at hr
  have tk : L2N.Takes (cxOf (L2N.CX P w) P w K mg base n_is_number "is_number" (defScope s_is_number) f cdv A outer s H E) (fun c d _ H => E c d H) := L2N.takes_of rfl rfl rfl rfl
  unfold m_is_number
  exact (iss_one (is_ret (ie_and (ie_isi (by decide +kernel) (ie_var (i := 0)) G.b_int G.b_isinstance) (ie_and (ie_not (ie_isi (by decide +kernel) (ie_var (i := 0)) G.b_bool G.b_isinstance)) (ie_one (ie_cmp op_le imp_le (ie_callB call_abs imp_abs (by decide +kernel) G.b_abs (ia_cons (ie_var (i := 0)) ia_nil)) (ie_var (i := 1))))))))
abbrev s_is_state : Stmt := top 18
abbrev n_is_state : List Str := ["state", "path", "many"]
theorem sc_is_state : FnScope n_is_state ["state"] (defScope s_is_state) := ⟨rfl, rfl, rfl, by decide +kernel, rfl, by decide +kernel, by decide +kernel⟩
def m_is_state : Sv := (mSeq (sIf (mNot (mT (m1 (gIsi "dict") (mVar 0)))) (sRet (mC (.bool false))) mSkip)
    (mSeq (sForD 0 1 (mSeq (sIf (mOr (mNot (mT (mCallN 1 g_is_path (mCons (mVar 1) mNil)))) (mOr (mT (m2 gEq (mVar 1) (mB gTup mNil))) (mNot (mT (mCallN 2 g_is_number (mCons (m2 gDGet (mVar 0) (mVar 1)) (mCons (mC (.int 1000000000)) mNil))))))) (sRet (mC (.bool false))) mSkip)
    (sIf (mT (mB gAny (mCons (mComp (mRng (mCons (mC (.int 1)) (mCons (mB gLen (mCons (mVar 1) mNil)) mNil))) 2 mYes (m2 gDIn (mSl (mVar 1) none (some (mVar 2))) (mVar 0))) mNil))) (sRet (mC (.bool false))) mSkip)))
    (sRet (mC (.bool true)))))
def g_is_state : List D → Res D := fun ds => outR (m_is_state (startE 3 ds))
theorem ok_is_state (G : Gl ca K w mg) (U : FunAs K mg "is_state" "is_state" s_is_state ["state"]) (F_is_path : FnD T ca P w K mg base 2 "is_path" 1 g_is_path) (F_is_number : FnD T ca P w K mg base 1 "is_number" 2 g_is_number) : FnD T ca P w K mg base 3 "is_state" 1 g_is_state := fn_as U rfl sc_is_state fun f cdv A outer s H E hr => by
  have hu := hu_at hr
  have tk : L2N.Takes (cxOf (L2N.CX P w) P w K mg base n_is_state "is_state" (defScope s_is_state) f cdv A outer s H E) (fun c d _ H => E c d H) := L2N.takes_of rfl rfl rfl rfl
  unfold m_is_state
  exact (iss_cons (is_if (it_not (it_val (ie_isi (by decide +kernel) (ie_var (i := 0)) G.b_dict G.b_isinstance))) (iss_one (is_ret ie_bl)) iss_nil)
    (iss_cons (is_forD (k := 0) (i := 1) (passes_of rfl) sc_is_state.nd (iss_cons (is_if (IW.it (iw_or (it_not (it_val (ie_call F_is_path hr (by decide) tk (ia_cons (ie_var (i := 1)) ia_nil)))) (iw_or (it_cmp (op_eqP hu) imp_eq (ie_var (i := 1)) (ie_tup ia_nil)) (iw_or1 (it_not (it_val (ie_call F_is_number hr (by decide) tk (ia_cons (ie_dget hu (ie_var (i := 0)) (ie_var (i := 1))) (ia_cons (ie_gi G.g_MOST_WORTH_states) ia_nil))))))))) (iss_one (is_ret ie_bl)) iss_nil)
    (iss_one (is_if (it_val (ie_callB (cr_any rfl) imp_any (by decide +kernel) G.b_any (ia_cons (ie_comp (j := 2) sc_is_state.nd (ii_rng2 G.b_range (ia_cons ie_int (ia_cons (ie_callB call_lenG imp_len (by decide +kernel) G.b_len (ia_cons (ie_var (i := 1)) ia_nil)) ia_nil)) (h2 := (len_cons _ _ 1 (len_cons _ _ 0 len_nil)))) (by show blkC n_is_state (defScope s_is_state) _ _ = true; decide +kernel) (fun _ _ _ _ _ => pg_name sc_is_state.nd rfl (Or.inl rfl) (.inr rfl)) (fun _ _ _ _ _ => its_nil) (fun _ _ _ _ _ => (ie_din hu (ie_sl (ie_var (i := 1)) io_no (io_some (ie_var (i := 2)))) (ie_var (i := 0))))) ia_nil))) (iss_one (is_ret ie_bl)) iss_nil))))
    (iss_one (is_ret ie_bl))))
abbrev s_need_state : Stmt := top 19
abbrev n_need_state : List Str := ["state"]
theorem sc_need_state : FnScope n_need_state ["state"] (defScope s_need_state) := ⟨rfl, rfl, rfl, by decide +kernel, rfl, by decide +kernel, by decide +kernel⟩
def m_need_state : Sv := (sIf (mNot (mT (mCallN 1 g_is_state (mCons (mVar 0) mNil)))) (sRaise .state) mSkip)
def g_need_state : List D → Res D := fun ds => outR (m_need_state (startE 1 ds))
theorem ok_need_state (G : Gl ca K w mg) (U : FunAs K mg "need_state" "need_state" s_need_state ["state"]) (F_is_state : FnD T ca P w K mg base 3 "is_state" 1 g_is_state) : FnD T ca P w K mg base 4 "need_state" 1 g_need_state := fn_as U rfl sc_need_state fun f cdv A outer s H E hr => by
  have hu := hu_at hr
  have tk : L2N.Takes (cxOf (L2N.CX P w) P w K mg base n_need_state "need_state" (defScope s_need_state) f cdv A outer s H E) (fun c d _ H => E c d H) := L2N.takes_of rfl rfl rfl rfl
  unfold m_need_state
  exact (iss_one (is_if (it_not (it_val (ie_call F_is_state hr (by decide) tk (ia_cons (ie_var (i := 0)) ia_nil)))) (iss_one (is_rs G.r_BadState tk)) iss_nil))
abbrev s_need_terms : Stmt := top 27
abbrev n_need_terms : List Str := ["good"]
theorem sc_need_terms : FnScope n_need_terms ["good"] (defScope s_need_terms) := ⟨rfl, rfl, rfl, by decide +kernel, rfl, by decide +kernel, by decide +kernel⟩
def m_need_terms : Sv := (sIf (mNot (mT (mVar 0))) (sRaise .look) mSkip)
def g_need_terms : List D → Res D := fun ds => outR (m_need_terms (startE 1 ds))
theorem ok_need_terms (G : Gl ca K w mg) (U : FunAs K mg "need_terms" "need" s_need_terms ["good"])  : FnD T ca P w K mg base 1 "need_terms" 1 g_need_terms := fn_as U rfl sc_need_terms fun f cdv A outer s H E hr => by
  have hu := hu_at hr
  have tk : L2N.Takes (cxOf (L2N.CX P w) P w K mg base n_need_terms "need" (defScope s_need_terms) f cdv A outer s H E) (fun c d _ H => E c d H) := L2N.takes_of rfl rfl rfl rfl
  unfold m_need_terms
  exact (iss_one (is_if (it_not (it_val (ie_var (i := 0)))) (iss_one (is_rs G.r_BadLook tk)) iss_nil))
abbrev s_need_deep : Stmt := top 29
abbrev n_need_deep : List Str := ["term", "deep", "word", "one"]
theorem sc_need_deep : FnScope n_need_deep ["term", "deep"] (defScope s_need_deep) := ⟨rfl, rfl, rfl, by decide +kernel, rfl, by decide +kernel, by decide +kernel⟩
def m_need_deep (g_rec : List D → Res D) : Sv := (mSeq (sExpr (mCallN 1 g_need_terms (mCons (mAndV (m1 (gIsi "tuple") (mVar 0)) (mAndV (m2 gGt (mB gLen (mCons (mVar 0) mNil)) (mC (.int 1))) (mAndV (m1 (gIsi "str") (m2 gIx (mVar 0) (mC (.int 0)))) (m2 gLt (mVar 1) (mC (.int 8)))))) mNil)))
    (mSeq (sAsg 2 (m2 gIx (mVar 0) (mC (.int 0))))
    (sIf (mT (m2 gEq (mVar 2) (mC (.str "num")))) (sExpr (mCallN 1 g_need_terms (mCons (mAndV (m2 gEq (mB gLen (mCons (mVar 0) mNil)) (mC (.int 2))) (mCallN 2 g_is_number (mCons (m2 gIx (mVar 0) (mC (.int 1))) (mCons (mC (.int 1000000000)) mNil)))) mNil))) (sIf (mT (m1 (gInT reads) (mVar 2))) (sExpr (mCallN 1 g_need_terms (mCons (mAndV (m2 gEq (mB gLen (mCons (mVar 0) mNil)) (mC (.int 2))) (mCallN 1 g_is_path (mCons (m2 gIx (mVar 0) (mC (.int 1))) mNil))) mNil))) (sIf (mT (m2 gEq (mVar 2) (mC (.str "look")))) (sExpr (mCallN 1 g_need_terms (mCons (mAndV (m2 gEq (mB gLen (mCons (mVar 0) mNil)) (mC (.int 2))) (mCallN 1 g_is_word (mCons (m2 gIx (mVar 0) (mC (.int 1))) mNil))) mNil))) (mSeq (sExpr (mCallN 1 g_need_terms (mCons (mOrV (mAndV (m1 (gInT twos) (mVar 2)) (m2 gEq (mB gLen (mCons (mVar 0) mNil)) (mC (.int 3)))) (mAndV (m2 gEq (mVar 2) (mC (.str "when"))) (m2 gEq (mB gLen (mCons (mVar 0) mNil)) (mC (.int 4))))) mNil)))
    (sFor (mItems tupOf (mSl (mVar 0) (some (mC (.int 1))) none)) 3 (sExpr (mCallN 2 g_rec (mCons (mVar 3) (mCons (m2 gAdd (mVar 1) (mC (.int 1))) mNil)))))))))))
def g_need_deep : Nat → List D → Res D
  | 0 => fun _ => .stuck
  | n + 1 => fun ds => outR (m_need_deep (g_need_deep n) (startE 4 ds))
theorem ok_need_deep (G : Gl ca K w mg) (U : FunAs K mg "need_deep" "need_deep" s_need_deep ["term", "deep"]) (F_need_terms : FnD T ca P w K mg base 1 "need_terms" 1 g_need_terms) (F_is_number : FnD T ca P w K mg base 1 "is_number" 2 g_is_number) (F_is_path : FnD T ca P w K mg base 2 "is_path" 1 g_is_path) (F_is_word : FnD T ca P w K mg base 1 "is_word" 1 g_is_word) : ∀ n : Nat, FnD T ca P w K mg base (2 + n) "need_deep" 2 (g_need_deep n)
  | 0 => fnD_stuck U rfl
  | n + 1 => by
    have F_need_deep := ok_need_deep G U F_need_terms F_is_number F_is_path F_is_word n
    exact fn_as U rfl sc_need_deep fun f cdv A outer s H E hr => by
      have hr : Room (2 + n) (A.deeper (envOfC "need_deep" (defScope s_need_deep) s.heap.objs.size f cdv)) := hr
      have hu := hu_at hr
      have tk : L2N.Takes (cxOf (L2N.CX P w) P w K mg base n_need_deep "need_deep" (defScope s_need_deep) f cdv A outer s H E) (fun c d _ H => E c d H) := L2N.takes_of rfl rfl rfl rfl
      unfold m_need_deep
      exact (iss_cons (is_expr (ie_call F_need_terms hr (by omega) tk (ia_cons (ie_and (ie_isi (by decide +kernel) (ie_var (i := 0)) G.b_tuple G.b_isinstance) (ie_and (ie_cmp op_gt imp_gt (ie_callB call_lenG imp_len (by decide +kernel) G.b_len (ia_cons (ie_var (i := 0)) ia_nil)) ie_int) (ie_and (ie_isi (by decide +kernel) (ie_ix ix_seq imp_ix (ie_var (i := 0)) ie_int) G.b_str G.b_isinstance) (ie_one (ie_cmp op_lt imp_lt (ie_var (i := 1)) (ie_gi G.g_MOST_WITHIN)))))) ia_nil)))
        (iss_cons (is_asg (i := 2) sc_need_deep.nd (ie_ix ix_seq imp_ix (ie_var (i := 0)) ie_int))
        (iss_one (is_if (it_cmp (op_eqP hu) imp_eq (ie_var (i := 2)) ie_str) (iss_one (is_expr (ie_call F_need_terms hr (by omega) tk (ia_cons (ie_and (ie_cmp (op_eqP hu) imp_eq (ie_callB call_lenG imp_len (by decide +kernel) G.b_len (ia_cons (ie_var (i := 0)) ia_nil)) ie_int) (ie_one (ie_call F_is_number hr (by omega) tk (ia_cons (ie_ix ix_seq imp_ix (ie_var (i := 0)) ie_int) (ia_cons (ie_gi G.g_MOST_NUMBER) ia_nil))))) ia_nil)))) (iss_one (is_if (it_inT G.s_READING (ie_var (i := 2))) (iss_one (is_expr (ie_call F_need_terms hr (by omega) tk (ia_cons (ie_and (ie_cmp (op_eqP hu) imp_eq (ie_callB call_lenG imp_len (by decide +kernel) G.b_len (ia_cons (ie_var (i := 0)) ia_nil)) ie_int) (ie_one (ie_call F_is_path hr (by omega) tk (ia_cons (ie_ix ix_seq imp_ix (ie_var (i := 0)) ie_int) ia_nil)))) ia_nil)))) (iss_one (is_if (it_cmp (op_eqP hu) imp_eq (ie_var (i := 2)) ie_str) (iss_one (is_expr (ie_call F_need_terms hr (by omega) tk (ia_cons (ie_and (ie_cmp (op_eqP hu) imp_eq (ie_callB call_lenG imp_len (by decide +kernel) G.b_len (ia_cons (ie_var (i := 0)) ia_nil)) ie_int) (ie_one (ie_call F_is_word hr (by omega) tk (ia_cons (ie_ix ix_seq imp_ix (ie_var (i := 0)) ie_int) ia_nil)))) ia_nil)))) (iss_cons (is_expr (ie_call F_need_terms hr (by omega) tk (ia_cons (ie_or (ie_and (ie_inT G.s_TWO (ie_var (i := 2))) (ie_one (ie_cmp (op_eqP hu) imp_eq (ie_callB call_lenG imp_len (by decide +kernel) G.b_len (ia_cons (ie_var (i := 0)) ia_nil)) ie_int))) (ie_one (ie_and (ie_cmp (op_eqP hu) imp_eq (ie_var (i := 2)) ie_str) (ie_one (ie_cmp (op_eqP hu) imp_eq (ie_callB call_lenG imp_len (by decide +kernel) G.b_len (ia_cons (ie_var (i := 0)) ia_nil)) ie_int))))) ia_nil)))
        (iss_one (is_for (i := 3) (passes_of rfl) sc_need_deep.nd (ii_tup (ie_sl (ie_var (i := 0)) (io_some ie_int) io_no)) (iss_one (is_expr (ie_call F_need_deep hr (by omega) tk (ia_cons (ie_var (i := 3)) (ia_cons (ie_op op_addI imp_add (ie_var (i := 1)) ie_int) ia_nil))))))))))))))))
abbrev s_need_term : Stmt := top 30
abbrev n_need_term : List Str := ["term"]
theorem sc_need_term : FnScope n_need_term ["term"] (defScope s_need_term) := ⟨rfl, rfl, rfl, by decide +kernel, rfl, by decide +kernel, by decide +kernel⟩
def m_need_term : Sv := (sExpr (mCallN 2 (g_need_deep 12) (mCons (mVar 0) (mCons (mC (.int 0)) mNil))))
def g_need_term : List D → Res D := fun ds => outR (m_need_term (startE 1 ds))
theorem ok_need_term (G : Gl ca K w mg) (U : FunAs K mg "need_term" "need_term" s_need_term ["term"]) (F_need_deep : FnD T ca P w K mg base 14 "need_deep" 2 (g_need_deep 12)) : FnD T ca P w K mg base 15 "need_term" 1 g_need_term := fn_as U rfl sc_need_term fun f cdv A outer s H E hr => by
  have hu := hu_at hr
  have tk : L2N.Takes (cxOf (L2N.CX P w) P w K mg base n_need_term "need_term" (defScope s_need_term) f cdv A outer s H E) (fun c d _ H => E c d H) := L2N.takes_of rfl rfl rfl rfl
  unfold m_need_term
  exact (iss_one (is_expr (ie_call F_need_deep hr (by decide) tk (ia_cons (ie_var (i := 0)) (ia_cons ie_int ia_nil)))))
abbrev s_looks_in : Stmt := top 35
abbrev n_looks_in : List Str := ["term", "found", "one", "name"]
theorem sc_looks_in : FnScope n_looks_in ["term"] (defScope s_looks_in) := ⟨rfl, rfl, rfl, by decide +kernel, rfl, by decide +kernel, by decide +kernel⟩
def m_looks_in (g_rec : List D → Res D) : Sv := (mSeq (sIf (mT (m2 gEq (m2 gIx (mVar 0) (mC (.int 0))) (mC (.str "look")))) (sRet (mB gLst (mCons (m2 gIx (mVar 0) (mC (.int 1))) mNil))) mSkip)
    (mSeq (sOwnDK 1)
    (mSeq (sIf (mOr (mT (m1 (gInT twos) (m2 gIx (mVar 0) (mC (.int 0))))) (mT (m2 gEq (m2 gIx (mVar 0) (mC (.int 0))) (mC (.str "when"))))) (sFor (mItems tupOf (mSl (mVar 0) (some (mC (.int 1))) none)) 2 (sFor (mItems lstOf (mCallN 1 g_rec (mCons (mVar 2) mNil))) 3 (sPutS 1 (mC (.bool true)) (mVar 3)))) mSkip)
    (sRetSort 1))))
def g_looks_in : Nat → List D → Res D
  | 0 => fun _ => .stuck
  | n + 1 => fun ds => outR (m_looks_in (g_looks_in n) (startE 4 ds))
theorem ok_looks_in (G : Gl ca K w mg) (U : FunAs K mg "looks_in" "looks_in" s_looks_in ["term"])  : ∀ n : Nat, FnD T ca P w K mg base (0 + n) "looks_in" 1 (g_looks_in n)
  | 0 => fnD_stuck U rfl
  | n + 1 => by
    have F_looks_in := ok_looks_in G U  n
    exact fn_as U rfl sc_looks_in fun f cdv A outer s H E hr => by
      have hr : Room (0 + n) (A.deeper (envOfC "looks_in" (defScope s_looks_in) s.heap.objs.size f cdv)) := hr
      have hu := hu_at hr
      have tk : L2N.Takes (cxOf (L2N.CX P w) P w K mg base n_looks_in "looks_in" (defScope s_looks_in) f cdv A outer s H E) (fun c d _ H => E c d H) := L2N.takes_of rfl rfl rfl rfl
      unfold m_looks_in
      exact (iss_cons (is_if (it_cmp (op_eqP hu) imp_eq (ie_ix ix_seq imp_ix (ie_var (i := 0)) ie_int) ie_str) (iss_one (is_ret (ie_lst (ia_cons (ie_ix ix_seq imp_ix (ie_var (i := 0)) ie_int) ia_nil)))) iss_nil)
        (iss_cons (is_ownDK (i := 1) sc_looks_in.nd)
        (iss_cons (is_if (IW.it (iw_or (it_inT G.s_TWO (ie_ix ix_seq imp_ix (ie_var (i := 0)) ie_int)) (iw_or1 (it_cmp (op_eqP hu) imp_eq (ie_ix ix_seq imp_ix (ie_var (i := 0)) ie_int) ie_str)))) (iss_one (is_for (i := 2) (passes_of rfl) sc_looks_in.nd (ii_tup (ie_sl (ie_var (i := 0)) (io_some ie_int) io_no)) (iss_one (is_for (i := 3) (passes_of rfl) sc_looks_in.nd (ii_list (ie_call F_looks_in hr (by omega) tk (ia_cons (ie_var (i := 2)) ia_nil))) (iss_one (is_putS (i := 1) hu (ie_var (i := 3)) ie_bl)))))) iss_nil)
        (iss_one (is_retSort (i := 1) G.b_sorted)))))
abbrev s_need_looks : Stmt := top 37
abbrev n_need_looks : List Str := ["good"]
theorem sc_need_looks : FnScope n_need_looks ["good"] (defScope s_need_looks) := ⟨rfl, rfl, rfl, by decide +kernel, rfl, by decide +kernel, by decide +kernel⟩
def m_need_looks : Sv := (sIf (mNot (mT (mVar 0))) (sRaise .look) mSkip)
def g_need_looks : List D → Res D := fun ds => outR (m_need_looks (startE 1 ds))
theorem ok_need_looks (G : Gl ca K w mg) (U : FunAs K mg "need_looks" "need" s_need_looks ["good"])  : FnD T ca P w K mg base 1 "need_looks" 1 g_need_looks := fn_as U rfl sc_need_looks fun f cdv A outer s H E hr => by
  have hu := hu_at hr
  have tk : L2N.Takes (cxOf (L2N.CX P w) P w K mg base n_need_looks "need" (defScope s_need_looks) f cdv A outer s H E) (fun c d _ H => E c d H) := L2N.takes_of rfl rfl rfl rfl
  unfold m_need_looks
  exact (iss_one (is_if (it_not (it_val (ie_var (i := 0)))) (iss_one (is_rs G.r_BadLook tk)) iss_nil))
abbrev s_law_cell : Stmt := top 42
abbrev n_law_cell : List Str := ["_law_script", "_law_k"]
theorem sc_law_cell : FnScope n_law_cell ["_law_script", "_law_k"] (defScope s_law_cell) := ⟨rfl, rfl, rfl, by decide +kernel, rfl, by decide +kernel, by decide +kernel⟩
def m_law_cell : Sv := (mSeq (sIf (mT (m2 gEq (mVar 0) (mB gLst mNil))) (sRet (m2 gMul (mVar 1) (mC (.int 7919)))) mSkip)
    (sRet (m2 gAdd (m2 gIx (mVar 0) (m2 gMod (mVar 1) (mB gLen (mCons (mVar 0) mNil)))) (m2 gMul (m2 gDiv (mVar 1) (mB gLen (mCons (mVar 0) mNil))) (mC (.int 104729))))))
def g_law_cell : List D → Res D := fun ds => outR (m_law_cell (startE 2 ds))
theorem ok_law_cell (G : Gl ca K w mg) (U : FunAs K mg "_law_cell" "_law_cell" s_law_cell ["_law_script", "_law_k"])  : FnD T ca P w K mg base 1 "_law_cell" 2 g_law_cell := fn_as U rfl sc_law_cell fun f cdv A outer s H E hr => by
  have hu := hu_at hr
  have tk : L2N.Takes (cxOf (L2N.CX P w) P w K mg base n_law_cell "_law_cell" (defScope s_law_cell) f cdv A outer s H E) (fun c d _ H => E c d H) := L2N.takes_of rfl rfl rfl rfl
  unfold m_law_cell
  exact (iss_cons (is_if (it_cmp (op_eqP hu) imp_eq (ie_var (i := 0)) (ie_lst ia_nil)) (iss_one (is_ret (ie_op op_mulI imp_mul (ie_var (i := 1)) ie_int))) iss_nil)
    (iss_one (is_ret (ie_op op_addI imp_add (ie_ix ix_seq imp_ix (ie_var (i := 0)) (ie_op op_mod imp_mod (ie_var (i := 1)) (ie_callB call_lenG imp_len (by decide +kernel) G.b_len (ia_cons (ie_var (i := 0)) ia_nil)))) (ie_op op_mulI imp_mul (ie_op op_fdivW imp_div (ie_var (i := 1)) (ie_callB call_lenG imp_len (by decide +kernel) G.b_len (ia_cons (ie_var (i := 0)) ia_nil))) ie_int)))))
abbrev s_law_drawn : Stmt := top 43
abbrev n_law_drawn : List Str := ["_law_cell_here", "_law_k", "_law_more"]
theorem sc_law_drawn : FnScope n_law_drawn ["_law_cell_here", "_law_k"] (defScope s_law_drawn) := ⟨rfl, rfl, rfl, by decide +kernel, rfl, by decide +kernel, by decide +kernel⟩
def m_law_drawn : Sv := (mSeq (sAsg 2 (m2 gMod (m2 gAdd (m2 gMul (mVar 0) (mC (.int 6364136223846793005))) (m2 gMul (m2 gAdd (mVar 1) (mC (.int 1))) (mC (.int 1442695040888963407)))) (mC (.int 340282366920938463463374607431768211507))))
    (mSeq (sAsg 2 (m2 gMod (m2 gMul (mVar 2) (mVar 2)) (mC (.int 340282366920938463463374607431768211297))))
    (mSeq (sAsg 2 (m2 gMul (m2 gMul (m2 gAdd (m2 gMod (mVar 2) (mC (.int 18446744073709551557))) (mC (.int 1))) (m2 gAdd (m2 gDiv (mVar 2) (mC (.int 18446744073709551557))) (mC (.int 1)))) (mVar 2)))
    (sRet (m2 gMod (mVar 2) (mC (.int 340282366920938463463374607431768211507)))))))
def g_law_drawn : List D → Res D := fun ds => outR (m_law_drawn (startE 3 ds))
theorem ok_law_drawn (G : Gl ca K w mg) (U : FunAs K mg "_law_drawn" "_law_drawn" s_law_drawn ["_law_cell_here", "_law_k"])  : FnD T ca P w K mg base 1 "_law_drawn" 2 g_law_drawn := fn_as U rfl sc_law_drawn fun f cdv A outer s H E hr => by
  have hu := hu_at hr
  have tk : L2N.Takes (cxOf (L2N.CX P w) P w K mg base n_law_drawn "_law_drawn" (defScope s_law_drawn) f cdv A outer s H E) (fun c d _ H => E c d H) := L2N.takes_of rfl rfl rfl rfl
  unfold m_law_drawn
  exact (iss_cons (is_asg (i := 2) sc_law_drawn.nd (ie_op op_mod imp_mod (ie_op op_addI imp_add (ie_op op_mulI imp_mul (ie_var (i := 0)) ie_int) (ie_op op_mulI imp_mul (ie_op op_addI imp_add (ie_var (i := 1)) ie_int) ie_int)) ie_int))
    (iss_cons (is_asg (i := 2) sc_law_drawn.nd (ie_op op_mod imp_mod (ie_op op_mulI imp_mul (ie_var (i := 2)) (ie_var (i := 2))) ie_int))
    (iss_cons (is_asg (i := 2) sc_law_drawn.nd (ie_op op_mulI imp_mul (ie_op op_mulI imp_mul (ie_op op_addI imp_add (ie_op op_mod imp_mod (ie_var (i := 2)) ie_int) ie_int) (ie_op op_addI imp_add (ie_op op_fdivW imp_div (ie_var (i := 2)) ie_int) ie_int)) (ie_var (i := 2))))
    (iss_one (is_ret (ie_op op_mod imp_mod (ie_var (i := 2)) ie_int))))))
abbrev s_law_tower : Stmt := top 47
abbrev n_law_tower : List Str := ["_law_many", "_law_term", "_law_j"]
theorem sc_law_tower : FnScope n_law_tower ["_law_many"] (defScope s_law_tower) := ⟨rfl, rfl, rfl, by decide +kernel, rfl, by decide +kernel, by decide +kernel⟩
def m_law_tower : Sv := (mSeq (sAsg 1 (mB gTup (mCons (mC (.str "at")) (mCons (mB gTup (mCons (mC (.str "a")) mNil)) mNil))))
    (mSeq (sFor (mRng (mCons (mVar 0) mNil)) 2 (sAsg 1 (m2 gIx (mB gLst (mCons (mB gTup (mCons (mC (.str "plus")) (mCons (mVar 1) (mCons (mB gTup (mCons (mC (.str "num")) (mCons (mC (.int 1)) mNil))) mNil)))) (mCons (mB gTup (mCons (mC (.str "when")) (mCons (mB gTup (mCons (mC (.str "num")) (mCons (mC (.int 1)) mNil))) (mCons (mVar 1) (mCons (mB gTup (mCons (mC (.str "num")) (mCons (mC (.int 2)) mNil))) mNil))))) mNil))) (m2 gMod (mVar 2) (mC (.int 2))))))
    (sRet (mVar 1))))
def g_law_tower : List D → Res D := fun ds => outR (m_law_tower (startE 3 ds))
theorem ok_law_tower (G : Gl ca K w mg) (U : FunAs K mg "_law_tower" "_law_tower" s_law_tower ["_law_many"])  : FnD T ca P w K mg base 1 "_law_tower" 1 g_law_tower := fn_as U rfl sc_law_tower fun f cdv A outer s H E hr => by
  have hu := hu_at hr
  have tk : L2N.Takes (cxOf (L2N.CX P w) P w K mg base n_law_tower "_law_tower" (defScope s_law_tower) f cdv A outer s H E) (fun c d _ H => E c d H) := L2N.takes_of rfl rfl rfl rfl
  unfold m_law_tower
  exact (iss_cons (is_asg (i := 1) sc_law_tower.nd (ie_tup (ia_cons ie_str (ia_cons (ie_tup (ia_cons ie_str ia_nil)) ia_nil))))
    (iss_cons (is_for (i := 2) (passes_of rfl) sc_law_tower.nd (ii_rng1 G.b_range (ia_cons (ie_var (i := 0)) ia_nil) (h1 := (len_cons _ _ 0 len_nil))) (iss_one (is_asg (i := 1) sc_law_tower.nd (ie_ix ix_seq imp_ix (ie_lst (ia_cons (ie_tup (ia_cons ie_str (ia_cons (ie_var (i := 1)) (ia_cons (ie_tup (ia_cons ie_str (ia_cons ie_int ia_nil))) ia_nil)))) (ia_cons (ie_tup (ia_cons ie_str (ia_cons (ie_tup (ia_cons ie_str (ia_cons ie_int ia_nil))) (ia_cons (ie_var (i := 1)) (ia_cons (ie_tup (ia_cons ie_str (ia_cons ie_int ia_nil))) ia_nil))))) ia_nil))) (ie_op op_mod imp_mod (ie_var (i := 2)) ie_int)))))
    (iss_one (is_ret (ie_var (i := 1))))))
abbrev s_law_none : Stmt := top 46
abbrev n_law_none : List Str := ["_law_one", "_law_found"]
theorem sc_law_none : FnScope n_law_none [] (defScope s_law_none) := ⟨rfl, rfl, rfl, by decide +kernel, rfl, by decide +kernel, by decide +kernel⟩
def m_law_none : Sv := (mSeq (sAsg 0 (mB gTup (mCons (mC (.str "num")) (mCons (mC (.int 1)) mNil))))
    (mSeq (sAsg 1 (mB gLst (mCons (mC .none) (mCons (mB gTup mNil) (mCons (mC (.str "at")) (mCons (mB gTup (mCons (mC (.str "at")) mNil)) (mCons (mB gTup (mCons (mC (.str "at")) (mCons (mC (.str "a")) mNil))) (mCons (mB gTup (mCons (mC (.str "at")) (mCons (mB gTup (mCons (mC (.str "A")) mNil)) mNil))) (mCons (mB gTup (mCons (mC (.str "at")) (mCons (mB gTup (mCons (mC (.str "a")) mNil)) (mCons (mC (.int 1)) mNil)))) mNil)))))))))
    (mSeq (sAsg 1 (m2 gAdd (mVar 1) (mB gLst (mCons (mB gTup (mCons (mC (.str "num")) mNil)) (mCons (mB gTup (mCons (mC (.str "num")) (mCons (mC (.bool true)) mNil))) (mCons (mB gTup (mCons (mC (.str "num")) (mCons (mC .none) mNil))) mNil))))))
    (mSeq (sAsg 1 (m2 gAdd (mVar 1) (mB gLst (mCons (mB gTup (mCons (mC (.str "num")) (mCons (mC (.int 1000000001)) mNil))) (mCons (mB gTup (mCons (mC (.str "look")) (mCons (mC (.str "A")) mNil))) (mCons (mB gTup (mCons (mC (.str "look")) mNil)) (mCons (mB gTup (mCons (mC (.str "look")) (mCons (mB gTup (mCons (mC (.str "la")) mNil)) mNil))) mNil)))))))
    (mSeq (sAsg 1 (m2 gAdd (mVar 1) (mB gLst (mCons (mB gTup (mCons (mC (.str "plus")) (mCons (mVar 0) mNil))) (mCons (mB gTup (mCons (mC (.str "plus")) (mCons (mVar 0) (mCons (mVar 0) (mCons (mVar 0) mNil))))) mNil)))))
    (mSeq (sAsg 1 (m2 gAdd (mVar 1) (mB gLst (mCons (mB gTup (mCons (mC (.str "when")) (mCons (mVar 0) (mCons (mVar 0) mNil)))) (mCons (mB gTup (mCons (mC (.str "same")) (mCons (mVar 0) (mCons (mC (.int 1)) mNil)))) (mCons (mB gLst (mCons (mC (.str "num")) (mCons (mC (.int 1)) mNil))) (mCons (mB gTup (mCons (mC (.int 1)) (mCons (mVar 0) mNil))) mNil)))))))
    (mSeq (sAsg 1 (m2 gAdd (mVar 1) (mB gLst (mCons (mB gTup (mCons (mC (.str "sums")) (mCons (mB gTup (mCons (mC (.str "a")) mNil)) mNil))) (mCons (mB gTup (mCons (mC (.str "there")) (mCons (mC .none) mNil))) mNil)))))
    (sRet (m2 gAdd (mVar 1) (mB gLst (mCons (mB gTup (mCons (mC (.str "many")) (mCons (mB gLst (mCons (mC (.str "a")) mNil)) mNil))) (mCons (mB gTup (mCons (mC (.str "sum")) (mCons (m2 gMul (mB gTup (mCons (mC (.str "a")) mNil)) (mC (.int 5))) mNil))) (mCons (mCallN 1 g_law_tower (mCons (mC (.int 8)) mNil)) (mCons (mB gTup (mCons (mC (.str "below")) (mCons (mVar 0) (mCons (mC .none) mNil)))) mNil))))))))))))))
def g_law_none : List D → Res D := fun ds => outR (m_law_none (startE 2 ds))
theorem ok_law_none (G : Gl ca K w mg) (U : FunAs K mg "_law_none" "_law_none" s_law_none []) (F_law_tower : FnD T ca P w K mg base 1 "_law_tower" 1 g_law_tower) : FnD T ca P w K mg base 2 "_law_none" 0 g_law_none := fn_as U rfl sc_law_none fun f cdv A outer s H E hr => by
  have hu := hu_at hr
  have tk : L2N.Takes (cxOf (L2N.CX P w) P w K mg base n_law_none "_law_none" (defScope s_law_none) f cdv A outer s H E) (fun c d _ H => E c d H) := L2N.takes_of rfl rfl rfl rfl
  unfold m_law_none
  exact (iss_cons (is_asg (i := 0) sc_law_none.nd (ie_tup (ia_cons ie_str (ia_cons ie_int ia_nil))))
    (iss_cons (is_asg (i := 1) sc_law_none.nd (ie_lst (ia_cons ie_non (ia_cons (ie_tup ia_nil) (ia_cons ie_str (ia_cons (ie_tup (ia_cons ie_str ia_nil)) (ia_cons (ie_tup (ia_cons ie_str (ia_cons ie_str ia_nil))) (ia_cons (ie_tup (ia_cons ie_str (ia_cons (ie_tup (ia_cons ie_str ia_nil)) ia_nil))) (ia_cons (ie_tup (ia_cons ie_str (ia_cons (ie_tup (ia_cons ie_str ia_nil)) (ia_cons ie_int ia_nil)))) ia_nil)))))))))
    (iss_cons (is_asg (i := 1) sc_law_none.nd (ie_op op_addI imp_add (ie_var (i := 1)) (ie_lst (ia_cons (ie_tup (ia_cons ie_str ia_nil)) (ia_cons (ie_tup (ia_cons ie_str (ia_cons ie_bl ia_nil))) (ia_cons (ie_tup (ia_cons ie_str (ia_cons ie_non ia_nil))) ia_nil))))))
    (iss_cons (is_asg (i := 1) sc_law_none.nd (ie_op op_addI imp_add (ie_var (i := 1)) (ie_lst (ia_cons (ie_tup (ia_cons ie_str (ia_cons ie_int ia_nil))) (ia_cons (ie_tup (ia_cons ie_str (ia_cons ie_str ia_nil))) (ia_cons (ie_tup (ia_cons ie_str ia_nil)) (ia_cons (ie_tup (ia_cons ie_str (ia_cons (ie_tup (ia_cons ie_str ia_nil)) ia_nil))) ia_nil)))))))
    (iss_cons (is_asg (i := 1) sc_law_none.nd (ie_op op_addI imp_add (ie_var (i := 1)) (ie_lst (ia_cons (ie_tup (ia_cons ie_str (ia_cons (ie_var (i := 0)) ia_nil))) (ia_cons (ie_tup (ia_cons ie_str (ia_cons (ie_var (i := 0)) (ia_cons (ie_var (i := 0)) (ia_cons (ie_var (i := 0)) ia_nil))))) ia_nil)))))
    (iss_cons (is_asg (i := 1) sc_law_none.nd (ie_op op_addI imp_add (ie_var (i := 1)) (ie_lst (ia_cons (ie_tup (ia_cons ie_str (ia_cons (ie_var (i := 0)) (ia_cons (ie_var (i := 0)) ia_nil)))) (ia_cons (ie_tup (ia_cons ie_str (ia_cons (ie_var (i := 0)) (ia_cons ie_int ia_nil)))) (ia_cons (ie_lst (ia_cons ie_str (ia_cons ie_int ia_nil))) (ia_cons (ie_tup (ia_cons ie_int (ia_cons (ie_var (i := 0)) ia_nil))) ia_nil)))))))
    (iss_cons (is_asg (i := 1) sc_law_none.nd (ie_op op_addI imp_add (ie_var (i := 1)) (ie_lst (ia_cons (ie_tup (ia_cons ie_str (ia_cons (ie_tup (ia_cons ie_str ia_nil)) ia_nil))) (ia_cons (ie_tup (ia_cons ie_str (ia_cons ie_non ia_nil))) ia_nil)))))
    (iss_one (is_ret (ie_op op_addI imp_add (ie_var (i := 1)) (ie_lst (ia_cons (ie_tup (ia_cons ie_str (ia_cons (ie_lst (ia_cons ie_str ia_nil)) ia_nil))) (ia_cons (ie_tup (ia_cons ie_str (ia_cons (ie_op op_mulI imp_mul (ie_tup (ia_cons ie_str ia_nil)) ie_int) ia_nil))) (ia_cons (ie_call F_law_tower hr (by decide) tk (ia_cons ie_int ia_nil)) (ia_cons (ie_tup (ia_cons ie_str (ia_cons (ie_var (i := 0)) (ia_cons ie_non ia_nil)))) ia_nil)))))))))))))))
abbrev s_Looks_define : Stmt := (clsBody (top 40)).getD 1 (.Pass ⟨0, 0, 0, 0⟩)
abbrev n_Looks_define : List Str := ["self", "name", "term", "one"]
theorem sc_Looks_define : FnScope n_Looks_define ["self", "name", "term"] (defScope s_Looks_define) := ⟨rfl, rfl, rfl, by decide +kernel, rfl, by decide +kernel, by decide +kernel⟩
def m_Looks_define : Sv := (mSeq (sExpr (mCallN 1 g_need_name (mCons (mVar 1) mNil)))
    (mSeq (sExpr (mCallN 1 g_need_term (mCons (mVar 2) mNil)))
    (mSeq (sExpr (mCallN 1 g_need_looks (mCons (mAndV (mInOb true (mVar 1) (mVar 0)) (mB gAll (mCons (mComp (mItems lstOf (mCallN 1 (g_looks_in 12) (mCons (mVar 2) mNil))) 3 mYes (mInOb false (mVar 3) (mVar 0))) mNil))) mNil)))
    (fun _ => .stuck))))
def g_Looks_define : List D → Res D := fun ds => outR (m_Looks_define (startE 4 ds))
theorem ok_Looks_define (G : Gl ca K w mg) {C : Addr} (LC : LooksC K C) (U : FunMt K C "define" "Looks.define" s_Looks_define ["self", "name", "term"]) (F_need_name : FnD T ca P w K mg base 2 "need_name" 1 g_need_name) (F_need_term : FnD T ca P w K mg base 15 "need_term" 1 g_need_term) (F_looks_in : FnD T ca P w K mg base 12 "looks_in" 1 (g_looks_in 12)) (F_need_looks : FnD T ca P w K mg base 1 "need_looks" 1 g_need_looks) : FnM T ca P w K mg base 16 C "define" 3 g_Looks_define := fn_mt U rfl sc_Looks_define fun f cdv A outer s H E hr => by
  have hu := hu_at hr
  have tk : L2N.Takes (cxOf (L2N.CX P w) P w K mg base n_Looks_define "Looks.define" (defScope s_Looks_define) f cdv A outer s H E) (fun c d _ H => E c d H) := L2N.takes_of rfl rfl rfl rfl
  unfold m_Looks_define
  exact (iss_cons (is_expr (ie_call F_need_name hr (by decide) tk (ia_cons (ie_var (i := 1)) ia_nil)))
    (iss_cons (is_expr (ie_call F_need_term hr (by decide) tk (ia_cons (ie_var (i := 2)) ia_nil)))
    (iss_cons (is_expr (ie_call F_need_looks hr (by decide) tk (ia_cons (ie_and (ie_notInTerms hu LC (ie_var (i := 1)) (ie_var (i := 0))) (ie_one (ie_callB (cr_all rfl) imp_all (by decide +kernel) G.b_all (ia_cons (ie_comp (j := 3) sc_Looks_define.nd (ii_list (ie_call F_looks_in hr (by decide) tk (ia_cons (ie_var (i := 2)) ia_nil))) (by show blkC n_Looks_define (defScope s_Looks_define) _ _ = true; decide +kernel) (fun _ _ _ _ _ => pg_name sc_Looks_define.nd rfl (Or.inl rfl) (.inr rfl)) (fun _ _ _ _ _ => its_nil) (fun _ _ _ _ _ => (ie_inTerms hu LC (ie_var (i := 3)) (ie_var (i := 0))))) ia_nil)))) ia_nil)))
    (iss_one is_never))))
abbrev s_Looks_names : Stmt := (clsBody (top 40)).getD 2 (.Pass ⟨0, 0, 0, 0⟩)
abbrev n_Looks_names : List Str := ["self"]
theorem sc_Looks_names : FnScope n_Looks_names ["self"] (defScope s_Looks_names) := ⟨rfl, rfl, rfl, by decide +kernel, rfl, by decide +kernel, by decide +kernel⟩
def m_Looks_names : Sv := (sRet (m1 gNames (mVar 0)))
def g_Looks_names : List D → Res D := fun ds => outR (m_Looks_names (startE 1 ds))
theorem ok_Looks_names (G : Gl ca K w mg) {C : Addr} (LC : LooksC K C) (U : FunMt K C "names" "Looks.names" s_Looks_names ["self"])  : FnM T ca P w K mg base 1 C "names" 1 g_Looks_names := fn_mt U rfl sc_Looks_names fun f cdv A outer s H E hr => by
  have hu := hu_at hr
  have tk : L2N.Takes (cxOf (L2N.CX P w) P w K mg base n_Looks_names "Looks.names" (defScope s_Looks_names) f cdv A outer s H E) (fun c d _ H => E c d H) := L2N.takes_of rfl rfl rfl rfl
  unfold m_Looks_names
  exact (iss_one (is_ret (ie_listTerms LC G.b_list (ie_var (i := 0)))))
abbrev s_Looks_show : Stmt := (clsBody (top 40)).getD 3 (.Pass ⟨0, 0, 0, 0⟩)
abbrev n_Looks_show : List Str := ["self", "state"]
theorem sc_Looks_show : FnScope n_Looks_show ["self", "state"] (defScope s_Looks_show) := ⟨rfl, rfl, rfl, by decide +kernel, rfl, by decide +kernel, by decide +kernel⟩
def m_Looks_show : Sv := (mSeq (sExpr (mCallN 1 g_need_state (mCons (mVar 1) mNil)))
    (fun _ => .stuck))
def g_Looks_show : List D → Res D := fun ds => outR (m_Looks_show (startE 2 ds))
theorem ok_Looks_show (G : Gl ca K w mg) {C : Addr} (LC : LooksC K C) (U : FunMt K C "show" "Looks.show" s_Looks_show ["self", "state"]) (F_need_state : FnD T ca P w K mg base 4 "need_state" 1 g_need_state) : FnM T ca P w K mg base 5 C "show" 2 g_Looks_show := fn_mt U rfl sc_Looks_show fun f cdv A outer s H E hr => by
  have hu := hu_at hr
  have tk : L2N.Takes (cxOf (L2N.CX P w) P w K mg base n_Looks_show "Looks.show" (defScope s_Looks_show) f cdv A outer s H E) (fun c d _ H => E c d H) := L2N.takes_of rfl rfl rfl rfl
  unfold m_Looks_show
  exact (iss_cons (is_expr (ie_call F_need_state hr (by decide) tk (ia_cons (ie_var (i := 1)) ia_nil)))
    (iss_one is_never))
abbrev s_Looks_value : Stmt := (clsBody (top 40)).getD 7 (.Pass ⟨0, 0, 0, 0⟩)
abbrev n_Looks_value : List Str := ["self", "name"]
theorem sc_Looks_value : FnScope n_Looks_value ["self", "name"] (defScope s_Looks_value) := ⟨rfl, rfl, rfl, by decide +kernel, rfl, by decide +kernel, by decide +kernel⟩
def m_Looks_value : Sv := (mSeq (sExpr (mCallN 1 g_need_name (mCons (mVar 1) mNil)))
    (mSeq (sExpr (mCallN 1 g_need_looks (mCons (mInOb false (mVar 1) (mVar 0)) mNil)))
    (mSeq (fun _ => .stuck)
    (fun _ => .stuck))))
def g_Looks_value : List D → Res D := fun ds => outR (m_Looks_value (startE 2 ds))
theorem ok_Looks_value (G : Gl ca K w mg) {C : Addr} (LC : LooksC K C) (U : FunMt K C "value" "Looks.value" s_Looks_value ["self", "name"]) (F_need_name : FnD T ca P w K mg base 2 "need_name" 1 g_need_name) (F_need_looks : FnD T ca P w K mg base 1 "need_looks" 1 g_need_looks) : FnM T ca P w K mg base 3 C "value" 2 g_Looks_value := fn_mt U rfl sc_Looks_value fun f cdv A outer s H E hr => by
  have hu := hu_at hr
  have tk : L2N.Takes (cxOf (L2N.CX P w) P w K mg base n_Looks_value "Looks.value" (defScope s_Looks_value) f cdv A outer s H E) (fun c d _ H => E c d H) := L2N.takes_of rfl rfl rfl rfl
  unfold m_Looks_value
  exact (iss_cons (is_expr (ie_call F_need_name hr (by decide) tk (ia_cons (ie_var (i := 1)) ia_nil)))
    (iss_cons (is_expr (ie_call F_need_looks hr (by decide) tk (ia_cons (ie_inTerms hu LC (ie_var (i := 1)) (ie_var (i := 0))) ia_nil)))
    (iss_cons is_never
    (iss_one is_never))))
abbrev s_Looks_readings : Stmt := (clsBody (top 40)).getD 9 (.Pass ⟨0, 0, 0, 0⟩)
abbrev n_Looks_readings : List Str := ["self", "name"]
theorem sc_Looks_readings : FnScope n_Looks_readings ["self", "name"] (defScope s_Looks_readings) := ⟨rfl, rfl, rfl, by decide +kernel, rfl, by decide +kernel, by decide +kernel⟩
def m_Looks_readings : Sv := (mSeq (sExpr (mCallN 1 g_need_name (mCons (mVar 1) mNil)))
    (mSeq (sExpr (mCallN 1 g_need_looks (mCons (mInOb false (mVar 1) (mVar 0)) mNil)))
    (fun _ => .stuck)))
def g_Looks_readings : List D → Res D := fun ds => outR (m_Looks_readings (startE 2 ds))
theorem ok_Looks_readings (G : Gl ca K w mg) {C : Addr} (LC : LooksC K C) (U : FunMt K C "readings" "Looks.readings" s_Looks_readings ["self", "name"]) (F_need_name : FnD T ca P w K mg base 2 "need_name" 1 g_need_name) (F_need_looks : FnD T ca P w K mg base 1 "need_looks" 1 g_need_looks) : FnM T ca P w K mg base 3 C "readings" 2 g_Looks_readings := fn_mt U rfl sc_Looks_readings fun f cdv A outer s H E hr => by
  have hu := hu_at hr
  have tk : L2N.Takes (cxOf (L2N.CX P w) P w K mg base n_Looks_readings "Looks.readings" (defScope s_Looks_readings) f cdv A outer s H E) (fun c d _ H => E c d H) := L2N.takes_of rfl rfl rfl rfl
  unfold m_Looks_readings
  exact (iss_cons (is_expr (ie_call F_need_name hr (by decide) tk (ia_cons (ie_var (i := 1)) ia_nil)))
    (iss_cons (is_expr (ie_call F_need_looks hr (by decide) tk (ia_cons (ie_inTerms hu LC (ie_var (i := 1)) (ie_var (i := 0))) ia_nil)))
    (iss_one is_never)))
end
end K20
namespace K20
open PySem PySem.Spec PyProof.Rows L2 IL
/-! ### Looks({}), by hand -/
structure Made (T : Gam) (H H' : Hp) (C a dx t kn dn : Addr) : Prop where
  st : ∀ b o, b ≠ a → H b = some o → isTbl o = false → H' b = some o
  fr : ∀ b, H' b = none → H b = none
  tb : TabC T H'
  ob : ∃ n, H' a = some (.ins C dx [("now", .ref n), ("terms", .ref t), ("known", .ref kn), ("done", .ref dn)])
  ht : H' t = some (.dK []) ∧ H t = none
  hk : H' kn = some (.dK []) ∧ H kn = none
  hd : H' dn = some (.lst []) ∧ H dn = none
  ne : t ≠ kn ∧ t ≠ dn ∧ kn ≠ dn
def spInit (T : Gam) (C : Addr) : Sp := fun vs H Q _ => ∃ a st dx, vs = [.ref a, .ref st] ∧ H a = some (.ins C dx []) ∧ H st = some (.dK []) ∧ TabC T H ∧ ∀ H' t kn dn, Made T H H' C a dx t kn dn → Q .non H'
abbrev s_init : Stmt := (clsBody (top 40)).getD 0 (.Pass ⟨0, 0, 0, 0⟩)
abbrev n_init : List Str := ["self", "state"]
theorem sc_init : FnScope n_init ["self", "state"] (defScope s_init) := ⟨rfl, rfl, rfl, by decide +kernel, rfl, by decide +kernel, by decide +kernel⟩
structure LooksF (K : PySem.W.Frag) (C : Addr) : Prop where
  c : LooksC K C
  noN : NoAttr K C "now"
  noK : NoAttr K C "known"
  noD : NoAttr K C "done"
section
variable {T : Gam} {ca : XC → Addr} {P : Program} {w : World} {K : PySem.W.Frag} {mg : Str → Option Value} {base : Heap} {C : Addr}
theorem need_state0 : g_need_state [.dict []] = .ok .none := by
  have h : (match g_need_state [.dict []] with | .ok .none => true | _ => false) = true := by decide +kernel
  match g_need_state [.dict []], h with
  | .ok .none, _ => rfl
theorem ok_init (G : Gl ca K w mg) (L : LooksF K C) {f : Addr} {fd : FuncData} (F : L2.Fun K "__init__" "Looks.__init__" s_init f fd) (F_need_state : FnD T ca P w K mg base 4 "need_state" 1 g_need_state) : FnOk P w K mg base (L2N.CX P w) 5 f fd ["self", "state"] (spInit T C) := by
  obtain ⟨oc, od, kV, doc, pm, an, cdv, ct, osl, rfl, lk, hcd⟩ := F.ex
  obtain ⟨fn, fdn, ps, hps, Fn, hmn, hkn, hbn⟩ := F_need_state.ex
  refine fn_of lk hcd sc_init (fun vs H Q E ⟨a, st, dx, e, _⟩ => by rw [e] <;> rfl) fun A outer s H vs Q E hr ⟨a, st, dx, ev, ha, hst, tb, q⟩ => ?_
  subst ev
  have tk : L2N.Takes (cxOf (L2N.CX P w) P w K mg base n_init "Looks.__init__" (defScope s_init) f cdv A outer s H E) (fun c d _ H => E c d H) := L2N.takes_of rfl rfl rfl rfl
  refine ⟨_, pss_cons (ps_expr (pe_callS Fn hr (by rfl) hmn hkn hbn (fun σ => L2N.passAt tk σ) (pa_cons (pe_var (i := 1) (by rfl) (.inl (by rfl))) pa_nil)) (by rfl))
    (pss_cons (ps_fld (pe_var (i := 0) (by rfl) (.inl (by rfl))) (pe_callTy call_dictD (by rfl) G.b_dict (by decide +kernel) (pa_cons (pe_var (i := 1) (by rfl) (.inl (by rfl))) pa_nil)) (by rfl))
    (pss_cons (ps_fld (pe_var (i := 0) (by rfl) (.inl (by rfl))) pe_dnewK (by rfl))
    (pss_cons (ps_fld (pe_var (i := 0) (by rfl) (.inl (by rfl))) pe_dnewK (by rfl))
    (pss_one (ps_fld (pe_var (i := 0) (by rfl) (.inl (by rfl))) (pe_lst pa_nil) (by rfl)))))), ?_⟩
  have hst' : hide [] H st = some (.dK []) := by rw [hide_nil]; exact hst
  refine ⟨_, rfl, rfl, [], [.dict []], ⟨fun a ha => absurd ha (by simp), tb⟩, .cons (.dK (.inl hst') .nil) .nil, ?_⟩
  rw [need_state0]
  intro v H1 p1 _
  have h1a := p1.st a _ ha rfl
  have h1s := p1.st st _ hst rfl
  refine ⟨_, rfl, st, [], rfl, .inl h1s, fun n hn => ⟨_, rfl, a, C, dx, [], rfl, (upd_ne (ne_of_none h1a hn)).trans h1a, L.c.cls, L.noN, by decide, ?_⟩⟩
  intro t ht
  have na_n : a ≠ n := ne_of_none h1a hn
  have t_a : t ≠ a := fun z => by rw [z, upd_same] at ht; cases ht
  have ht1 : upd H1 n (.dK []) t = none := by rwa [upd_ne t_a] at ht
  have t_n : t ≠ n := fun z => by rw [z, upd_same] at ht1; cases ht1
  have ht0 : H1 t = none := by rwa [upd_ne t_n] at ht1
  refine ⟨_, rfl, a, C, dx, _, rfl, (upd_ne (Ne.symm t_a)).trans upd_same, L.c.cls, L.c.noT, (by show 1 < 1000; decide), ?_⟩
  intro kn hkn'
  have k_a : kn ≠ a := fun z => by rw [z, upd_same] at hkn'; cases hkn'
  rw [upd_ne k_a] at hkn'
  have k_t : kn ≠ t := fun z => by rw [z, upd_same] at hkn'; cases hkn'
  rw [upd_ne k_t, upd_ne k_a] at hkn'
  have k_n : kn ≠ n := fun z => by rw [z, upd_same] at hkn'; cases hkn'
  rw [upd_ne k_n] at hkn'
  refine ⟨_, rfl, a, C, dx, _, rfl, (upd_ne (Ne.symm k_a)).trans upd_same, L.c.cls, L.noK, (by show 2 < 1000; decide), ?_⟩
  refine ⟨(by show 0 ≤ sizeLine; decide), fun dn hdn => ?_⟩
  have d_a : dn ≠ a := fun z => by rw [z, upd_same] at hdn; cases hdn
  rw [upd_ne d_a] at hdn
  have d_k : dn ≠ kn := fun z => by rw [z, upd_same] at hdn; cases hdn
  rw [upd_ne d_k, upd_ne d_a] at hdn
  have d_t : dn ≠ t := fun z => by rw [z, upd_same] at hdn; cases hdn
  rw [upd_ne d_t, upd_ne d_a] at hdn
  have d_n : dn ≠ n := fun z => by rw [z, upd_same] at hdn; cases hdn
  rw [upd_ne d_n] at hdn
  refine ⟨_, rfl, a, C, dx, _, rfl, (upd_ne (Ne.symm d_a)).trans upd_same, L.c.cls, L.noD, (by show 3 < 1000; decide), ?_⟩
  refine q _ t kn dn ?_
  have e1 : upd H1 n (.dK []) a = some (.ins C dx []) := (upd_ne na_n).trans h1a
  have k1 := (Pe.new (T := T) (o := .dK []) hn).tb (p1.tb tb)
  have k2 : TabC T (upd (upd H1 n (.dK [])) a (.ins C dx (putF "now" (.ref n) []))) := k1.upd e1 rfl rfl
  have k3 := (Pe.new (T := T) (o := .dK []) ht).tb k2
  have k4 := k3.upd (v := .ins C dx (putF "terms" (.ref t) (putF "now" (.ref n) []))) ((upd_ne (Ne.symm t_a)).trans upd_same) rfl rfl
  have f5 : upd (upd (upd (upd H1 n (.dK [])) a (.ins C dx (putF "now" (.ref n) []))) t (.dK [])) a (.ins C dx (putF "terms" (.ref t) (putF "now" (.ref n) []))) kn = none := by rw [upd_ne k_a, upd_ne k_t, upd_ne k_a, upd_ne k_n]; exact hkn'
  have k5 := (Pe.new (T := T) (o := .dK []) f5).tb k4
  have k6 := k5.upd (v := .ins C dx (putF "known" (.ref kn) (putF "terms" (.ref t) (putF "now" (.ref n) [])))) ((upd_ne (Ne.symm k_a)).trans upd_same) rfl rfl
  have f7 : upd (upd (upd (upd (upd (upd H1 n (.dK [])) a (.ins C dx (putF "now" (.ref n) []))) t (.dK [])) a (.ins C dx (putF "terms" (.ref t) (putF "now" (.ref n) [])))) kn (.dK [])) a (.ins C dx (putF "known" (.ref kn) (putF "terms" (.ref t) (putF "now" (.ref n) [])))) dn = none := by rw [upd_ne d_a, upd_ne d_k, upd_ne d_a, upd_ne d_t, upd_ne d_a, upd_ne d_n]; exact hdn
  have k7 := (Pe.new (T := T) (o := .lst []) f7).tb k6
  have k8 := k7.upd (v := .ins C dx (putF "done" (.ref dn) (putF "known" (.ref kn) (putF "terms" (.ref t) (putF "now" (.ref n) []))))) ((upd_ne (Ne.symm d_a)).trans upd_same) rfl rfl
  refine ⟨fun b o hb e i => ?_, fun b e => ?_, k8, ⟨n, upd_same⟩, ⟨?_, p1.fr t ht0⟩, ⟨?_, p1.fr kn hkn'⟩, ⟨?_, p1.fr dn hdn⟩, ⟨Ne.symm k_t, Ne.symm d_t, Ne.symm d_k⟩⟩
  · have e0 := p1.st b o e i
    rw [upd_ne hb, upd_ne (ne_of_none e0 hdn), upd_ne hb, upd_ne (ne_of_none e0 hkn'), upd_ne hb, upd_ne (ne_of_none e0 ht0), upd_ne hb, upd_ne (ne_of_none e0 hn)]
    exact e0
  · by_cases ba : b = a
    · rw [ba, upd_same] at e; cases e
    rw [upd_ne ba] at e
    by_cases bd : b = dn
    · rw [bd, upd_same] at e; cases e
    rw [upd_ne bd, upd_ne ba] at e
    by_cases bk : b = kn
    · rw [bk, upd_same] at e; cases e
    rw [upd_ne bk, upd_ne ba] at e
    by_cases bt : b = t
    · rw [bt, upd_same] at e; cases e
    rw [upd_ne bt, upd_ne ba] at e
    by_cases bn : b = n
    · rw [bn, upd_same] at e; cases e
    rw [upd_ne bn] at e
    exact p1.fr b e
  · rw [upd_ne t_a, upd_ne (Ne.symm d_t), upd_ne t_a, upd_ne (Ne.symm k_t), upd_ne t_a, upd_same]
  · rw [upd_ne k_a, upd_ne (Ne.symm d_k), upd_ne k_a, upd_same]
  · rw [upd_ne d_a, upd_same]
def laD : D := .tuple [.str "num", .int 1]
def spDef (T : Gam) (K : PySem.W.Frag) (C : Addr) : Sp := fun vs H Q _ => ∃ a t kn dn tp dx n, vs = [.ref a, .str "la", .ref tp] ∧ H a = some (.ins C dx [("now", .ref n), ("terms", .ref t), ("known", .ref kn), ("done", .ref dn)]) ∧ H t = some (.dK []) ∧ H kn = some (.dK []) ∧ H dn = some (.lst []) ∧
  H tp = some (.tup [.str "num", .int 1]) ∧ TabC T H ∧ ∀ H1, Pe T H H1 → Q .non (upd H1 t (.dK [(.inr "la", .ref tp)]))
def env0 : IL.Env := [some (obD [] true), some (.str "la"), some laD, none]
def isNo0 : Res D → Bool
  | .ok .none => true
  | _ => false
theorem isNo0_of {r : Res D} (h : isNo0 r = true) : r = .ok .none := by
  match r, h with
  | .ok .none, _ => rfl
theorem ok_define0 (G : Gl ca K w mg) (L : LooksF K C) {f : Addr} {fd : FuncData} (F : L2.Fun K "define" "Looks.define" s_Looks_define f fd) (F_need_name : FnD T ca P w K mg base 2 "need_name" 1 g_need_name) (F_need_term : FnD T ca P w K mg base 15 "need_term" 1 g_need_term) (F_looks_in : FnD T ca P w K mg base 12 "looks_in" 1 (g_looks_in 12)) (F_need_looks : FnD T ca P w K mg base 1 "need_looks" 1 g_need_looks) :
    FnOk P w K mg base (L2N.CX P w) 16 f fd ["self", "name", "term"] (spDef T K C) := by
  obtain ⟨oc, od, kV, doc, pm, an, cdv, ct, osl, rfl, lk, hcd⟩ := F.ex
  refine fn_of lk hcd sc_Looks_define (fun vs H Q E ⟨_, _, _, _, _, _, _, e, _⟩ => by rw [e] <;> rfl) fun A outer s H vs Q E hr ⟨a, t, kn, dn, tp, dx, n, ev, ha, ht, hk, hd, htp, tb, q⟩ => ?_
  subst ev
  have LC := L.c
  have hu := hu_at hr
  have hu1 : (A.deeper (envOfC "Looks.define" (defScope s_Looks_define) s.heap.objs.size f cdv)).units + 1 < cLine := by omega
  have tk : L2N.Takes (cxOf (L2N.CX P w) P w K mg base n_Looks_define "Looks.define" (defScope s_Looks_define) f cdv A outer s H E) (fun c d _ H => E c d H) := L2N.takes_of rfl rfl rfl rfl
  refine ⟨_, pss_cons (ps_expr (ie_call F_need_name hr (by decide) tk (ia_cons (ie_var (i := 1)) ia_nil)).pe (by rfl))
    (pss_cons (ps_expr (ie_call F_need_term hr (by decide) tk (ia_cons (ie_var (i := 2)) ia_nil)).pe (by rfl))
    (pss_cons (ps_expr (ie_call F_need_looks hr (by decide) tk (ia_cons (ie_and (ie_notInTerms hu LC (ie_var (i := 1)) (ie_var (i := 0))) (ie_one (ie_callB (cr_all rfl) imp_all (by decide +kernel) G.b_all (ia_cons (ie_comp (j := 3) sc_Looks_define.nd (ii_list (ie_call F_looks_in hr (by decide) tk (ia_cons (ie_var (i := 2)) ia_nil))) (by show blkC n_Looks_define (defScope s_Looks_define) _ _ = true; decide +kernel) (fun _ _ _ _ _ => pg_name sc_Looks_define.nd rfl (Or.inl rfl) (.inr rfl)) (fun _ _ _ _ _ => its_nil) (fun _ _ _ _ _ => (ie_inTerms hu LC (ie_var (i := 3)) (ie_var (i := 0))))) ia_nil)))) ia_nil)).pe (by rfl))
    (pss_one (ps_dput hu1 (pe_fld (pe_var (i := 0) (by rfl) (by first | exact .inl rfl | exact .inr (.inl rfl) | exact .inr (.inr rfl))) (by rfl)) (pe_var (i := 1) (by rfl) (by first | exact .inl rfl | exact .inr (.inl rfl) | exact .inr (.inr rfl))) (pe_var (i := 2) (by rfl) (by first | exact .inl rfl | exact .inr (.inl rfl) | exact .inr (.inr rfl))) (by rfl))))), ?_⟩
  have lv : Live T [] H := ⟨fun a ha => absurd ha (by simp), tb⟩
  have rel : RelE K (hide [] H) env0 (L2.start n_Looks_define [.ref a, .str "la", .ref tp]) := by
    refine ⟨rfl, fun i d e => ?_⟩
    rw [hide_nil]
    match i, e with
    | 0, e => cases e; exact ⟨_, rfl, .ob ⟨C, dx, n, L.c.g, ha⟩ (.inl ht) .nil fun _ => ⟨.inl hk, .inl hd⟩⟩
    | 1, e => cases e; exact ⟨_, rfl, .str _⟩
    | 2, e => cases e; exact ⟨_, rfl, .tup htp (.cons (.str _) (.cons (.int _) .nil))⟩
    | 3, e => cases e
  refine ⟨[], env0, lv, rel, ?_⟩
  rw [show mCallN 1 g_need_name (mCons (mVar 1) mNil) env0 = .ok .none from isNo0_of (by decide +kernel)]
  intro _ H1 p1 _
  refine ⟨[], env0, lv.le p1, rel.le p1, ?_⟩
  rw [show mCallN 1 g_need_term (mCons (mVar 2) mNil) env0 = .ok .none from isNo0_of (by decide +kernel)]
  intro _ H2 p2 _
  refine ⟨[], env0, (lv.le p1).le p2, (rel.le p1).le p2, ?_⟩
  refine Eq.mpr (congrArg (fun r => Fin T ca _ _ _ H2 r _) (isNo0_of (by decide +kernel) : _ = Res.ok PyData.none)) ?_
  intro _ H3 p3 _
  have p := (p1.trans p2).trans p3
  exact ⟨_, rfl, _, rfl, a, C, dx, _, .ref t, rfl, p.st a _ ha rfl, L.c.cls, L.c.noT, rfl, _, rfl, t, _, rfl, DPut.k (k := .inr "la") (p.st t _ ht rfl) (by show 0 < sizeLine; decide), q H3 p⟩
end
end K20
namespace K20
open PySem PySem.Spec PyProof.Rows L2 IL
/-! ### value('la') on its good way, by hand -/
abbrev s_worth : Stmt := top 34
abbrev n_worth : List Str := ["term", "read", "word", "one"]
theorem sc_worth : FnScope n_worth ["term", "read"] (defScope s_worth) := ⟨rfl, rfl, rfl, by decide +kernel, rfl, by decide +kernel, by decide +kernel⟩
/-- worth(('num', 1), read) -/
def spWorth : Sp := fun vs H Q _ => ∃ tp r, vs = [.ref tp, r] ∧ H tp = some (.tup [.str "num", .int 1]) ∧ Q (.int 1) H
abbrev s_kinit : Stmt := (clsBody (top 39)).getD 0 (.Pass ⟨0, 0, 0, 0⟩)
abbrev n_kinit : List Str := ["self", "own", "row"]
theorem sc_kinit : FnScope n_kinit ["self", "own", "row"] (defScope s_kinit) := ⟨rfl, rfl, rfl, by decide +kernel, rfl, by decide +kernel, by decide +kernel⟩
def spKinit (CK : Addr) : Sp := fun vs H Q _ => ∃ a dx v u, vs = [.ref a, v, u] ∧ H a = some (.ins CK dx []) ∧ Q .non (upd (upd H a (.ins CK dx [("own", v)])) a (.ins CK dx [("own", v), ("row", u)]))
/-- the book with the one look, nothing worked out -/
structure Book (H : Hp) (C a dx n t kn dn tp : Addr) : Prop where
  ob : H a = some (.ins C dx [("now", .ref n), ("terms", .ref t), ("known", .ref kn), ("done", .ref dn)])
  ht : H t = some (.dK [(.inr "la", .ref tp)])
  hk : H kn = some (.dK [])
  hd : H dn = some (.lst [])
  hp : H tp = some (.tup [.str "num", .int 1])
theorem Book.le {T : Gam} {H H' : Hp} {C a dx n t kn dn tp : Addr} (b : Book H C a dx n t kn dn tp) (p : Pe T H H') : Book H' C a dx n t kn dn tp := ⟨p.st _ _ b.ob rfl, p.st _ _ b.ht rfl, p.st _ _ b.hk rfl, p.st _ _ b.hd rfl, p.st _ _ b.hp rfl⟩
abbrev s_fresh : Stmt := (clsBody (top 40)).getD 5 (.Pass ⟨0, 0, 0, 0⟩)
abbrev n_fresh : List Str := ["self", "name", "term", "old"]
theorem sc_fresh : FnScope n_fresh ["self", "name"] (defScope s_fresh) := ⟨rfl, rfl, rfl, by decide +kernel, rfl, by decide +kernel, by decide +kernel⟩
def spFresh (C : Addr) : Sp := fun vs H Q _ => ∃ a dx n t kn dn tp, vs = [.ref a, .str "la"] ∧ Book H C a dx n t kn dn tp ∧ Q (.bl false) H
/-- behind the working out -/
structure Worked (T : Gam) (H H' : Hp) (CK kn dn : Addr) : Prop where
  st : ∀ b o, b ≠ kn → b ≠ dn → H b = some o → isTbl o = false → H' b = some o
  fr : ∀ b, H' b = none → H b = none
  tb : TabC T H'
  hk : ∃ k dk r, H' kn = some (.dK [(.inr "la", .ref k)]) ∧ H' k = some (.ins CK dk [("own", .int 1), ("row", r)])
  hd : ∃ vs, H' dn = some (.lst vs)
abbrev s_work : Stmt := (clsBody (top 40)).getD 6 (.Pass ⟨0, 0, 0, 0⟩)
abbrev n_work : List Str := ["self", "name", "row", "read", "own"]
theorem sc_work : FnScope n_work ["self", "name"] (defScope s_work) := ⟨rfl, rfl, rfl, by decide +kernel, rfl, by decide +kernel, by decide +kernel⟩
def spWork (T : Gam) (C CK : Addr) : Sp := fun vs H Q _ => ∃ a dx n t kn dn tp, vs = [.ref a, .str "la"] ∧ Book H C a dx n t kn dn tp ∧ TabC T H ∧ ∀ H', Worked T H H' CK kn dn → Q .non H'
def spValue (T : Gam) (C CK : Addr) : Sp := fun vs H Q _ => ∃ a dx n t kn dn tp, vs = [.ref a, .str "la"] ∧ Book H C a dx n t kn dn tp ∧ TabC T H ∧ ∀ H', Worked T H H' CK kn dn → Q (.int 1) H'
section
variable {T : Gam} {ca : XC → Addr} {P : Program} {w : World} {K : PySem.W.Frag} {mg : Str → Option Value} {base : Heap} {C CK : Addr}
theorem ok_worth {f : Addr} {fd : FuncData} (F : L2.Fun K "worth" "worth" s_worth f fd) : FnOk P w K mg base (L2N.CX P w) 1 f fd ["term", "read"] spWorth := by
  obtain ⟨oc, od, kV, doc, pm, an, cdv, ct, osl, rfl, lk, hcd⟩ := F.ex
  refine fn_of lk hcd sc_worth (fun vs H Q E ⟨_, _, e, _⟩ => by rw [e] <;> rfl) fun A outer s H vs Q E hr ⟨tp, r, ev, htp, q⟩ => ?_
  subst ev
  refine ⟨_, pss_cons (ps_set (i := 2) sc_worth.nd (by rfl) (Or.inl (by rfl)) (pe_ix ix_tup (pe_var (i := 0) (by rfl) (.inl (by rfl))) pe_int (by exact fun _ _ => rfl)))
    (pss_cons (ps_if (pt_cmpR op_eq (pe_var (i := 2) (by rfl) (.inl (by rfl))) pe_str (nomark _)) (pss_one (ps_ret (pe_ix ix_tup (pe_var (i := 0) (by rfl) (.inl (by rfl))) pe_int (by exact fun _ _ => rfl)))) pss_nil)
    (pss_cons ps_never (pss_cons ps_never (pss_cons ps_never (pss_one ps_never))))), ?_⟩
  refine ⟨_, rfl, tp, _, _, _, rfl, rfl, .inl (.inl htp), rfl, ?_⟩
  refine ⟨_, rfl, rfl, _, rfl, ?_⟩
  dsimp only
  rw [if_pos (by decide)]
  exact ⟨_, rfl, tp, _, _, _, rfl, rfl, .inl (.inl htp), rfl, q⟩
/-- fields of one's own may be stored -/
structure KnownF (K : PySem.W.Frag) (CK : Addr) : Prop where
  cls : Cls K CK
  noO : NoAttr K CK "own"
  noR : NoAttr K CK "row"
theorem ok_kinit {f : Addr} {fd : FuncData} (L : KnownF K CK) (F : L2.Fun K "__init__" "Known.__init__" s_kinit f fd) : FnOk P w K mg base (L2N.CX P w) 1 f fd ["self", "own", "row"] (spKinit CK) := by
  obtain ⟨oc, od, kV, doc, pm, an, cdv, ct, osl, rfl, lk, hcd⟩ := F.ex
  refine fn_of lk hcd sc_kinit (fun vs H Q E ⟨_, _, _, _, e, _⟩ => by rw [e] <;> rfl) fun A outer s H vs Q E hr ⟨a, dx, v, u, ev, ha, q⟩ => ?_
  subst ev
  refine ⟨_, pss_cons (ps_fld (pe_var (i := 0) (by rfl) (.inl (by rfl))) (pe_var (i := 1) (by rfl) (.inl (by rfl))) (by rfl))
    (pss_one (ps_fld (pe_var (i := 0) (by rfl) (.inl (by rfl))) (pe_var (i := 2) (by rfl) (.inl (by rfl))) (by rfl))), ?_⟩
  refine ⟨_, rfl, _, rfl, a, CK, dx, [], rfl, ha, L.cls, L.noO, by decide, ?_⟩
  exact ⟨_, rfl, _, rfl, a, CK, dx, _, rfl, upd_same, L.cls, L.noR, (by show 1 < 1000; decide), q⟩
theorem ok_fresh (L : LooksF K C) {f : Addr} {fd : FuncData} (F : L2.Fun K "is_fresh" "Looks.is_fresh" s_fresh f fd) : FnOk P w K mg base (L2N.CX P w) 1 f fd ["self", "name"] (spFresh C) := by
  obtain ⟨oc, od, kV, doc, pm, an, cdv, ct, osl, rfl, lk, hcd⟩ := F.ex
  refine fn_of lk hcd sc_fresh (fun vs H Q E ⟨_, _, _, _, _, _, _, e, _⟩ => by rw [e] <;> rfl) fun A outer s H vs Q E hr ⟨a, dx, n, t, kn, dn, tp, ev, b, q⟩ => ?_
  subst ev
  have hu := hu_at hr
  have hu1 : (A.deeper (envOfC "Looks.is_fresh" (defScope s_fresh) s.heap.objs.size f cdv)).units + 1 < cLine := by omega
  refine ⟨_, pss_cons (ps_if (pt_cmp (pc_dnotin hu1 (pe_var (i := 1) (by rfl) (.inl (by rfl))) (pe_fld (pe_var (i := 0) (by rfl) (.inl (by rfl))) (by rfl))) (by rfl)) (pss_one (ps_ret pe_bl)) pss_nil)
    (pss_cons ps_never (pss_one ps_never)), ?_⟩
  refine ⟨_, rfl, _, rfl, a, C, dx, _, .ref kn, rfl, b.ob, L.c.cls, L.noK, rfl, kn, _, rfl, DGet.k (k := .inr "la") b.hk, _, rfl, ?_⟩
  exact q
end
end K20
namespace K20
open PySem PySem.Spec PyProof.Rows L2 IL
section
variable {T : Gam} {ca : XC → Addr} {P : Program} {w : World} {K : PySem.W.Frag} {mg : Str → Option Value} {base : Heap} {C CK : Addr}
def tabsN (T : Gam) : List NdefX.NTab := T.tabs.map fun p => (p.1, fun _ _ => p.2)
theorem tabsN_of {H : Hp} (h : LamX.Tabs T.tabs H) : NdefX.TabsN (tabsN T) H := fun p hp => by
  obtain ⟨q, hq, rfl⟩ := List.mem_map.mp hp
  exact NdefX.TabN.of (h q hq)
theorem tabs_of {H : Hp} (h : NdefX.TabsN (tabsN T) H) : LamX.Tabs T.tabs H := fun p hp => NdefX.TabN.to (h (p.1, fun _ _ => p.2) (List.mem_map.mpr ⟨p, hp, rfl⟩))
theorem ok_work (L : LooksF K C) (LK : KnownF K CK) {f : Addr} {oc kV doc pm ct : Value} {od an : Option Addr} {osl : Array (Option Value)} {c P1 : Addr} (lk : K.lookup f = some ⟨oc, od, .func (PySem.W.fnOf "work_out" "Looks.work_out" (defArgs s_work) (defBody s_work) (defScope s_work) .none kV doc pm an (.ref c) ct), osl⟩) (hcd : PySem.W.codeIn K (.ref c) "Looks.work_out" = true)
    (TB : LamX.TabB base mg c P1) (hin : (P1, ("Looks.work_out.<locals>.read" : Str)) ∈ T.tabs) (hone : ∀ p ∈ T.tabs, p.1 = P1 → p.2 = "Looks.work_out.<locals>.read")
    {fw : Addr} {fdw : FuncData} (Fw : FnOk P w K mg base (L2N.CX P w) 1 fw fdw ["term", "read"] spWorth) (hmw : mg "worth" = some (.ref fw)) (hkw : PySem.W.keepIn K (.ref fw) = true) (hbw : L2.Binds K fdw ["term", "read"] [])
    {fk : Addr} {fdk : FuncData} (Fk : FnOk P w K mg base (L2N.CX P w) 1 fk fdk ["self", "own", "row"] (spKinit CK)) (hmk : mg "Known" = some (.ref CK)) (MK : Mk K CK fk) (hbk : L2.Binds K fdk ["self", "own", "row"] []) :
    FnOk P w K mg base (L2N.CX P w) 3 f (PySem.W.fnOf "work_out" "Looks.work_out" (defArgs s_work) (defBody s_work) (defScope s_work) .none kV doc pm an (.ref c) ct) ["self", "name"] (spWork T C CK) := by
  refine fn_of lk hcd sc_work (fun vs H Q E ⟨_, _, _, _, _, _, _, e, _⟩ => by rw [e] <;> rfl) fun A outer s H vs Q E hr ⟨a, dx, n, t, kn, dn, tp, ev, b, tb, q⟩ => ?_
  subst ev
  have hu := hu_at hr
  have hu1 : (A.deeper (envOfC "Looks.work_out" (defScope s_work) s.heap.objs.size f (.ref c))).units + 1 < cLine := by omega
  have tk : L2N.Takes (cxOf (L2N.CX P w) P w K mg base n_work "Looks.work_out" (defScope s_work) f (.ref c) A outer s H E) (fun c d _ H => E c d H) := L2N.takes_of rfl rfl rfl rfl
  have v0 := @pe_var (cxOf (L2N.CX P w) P w K mg base n_work "Looks.work_out" (defScope s_work) f (.ref c) A outer s H E)
  refine ⟨_, pss_cons (ps_set (i := 2) sc_work.nd (by rfl) (Or.inr (by rfl)) (pe_lst pa_nil))
    (pss_cons (NdefX.ps_ndefM (T := tabsN T) (nm := fun _ _ => "Looks.work_out.<locals>.read") (i := 3) TB rfl (List.mem_map.mpr ⟨_, hin, rfl⟩) (by rfl) (fun p hp e => by
        obtain ⟨z, hz, rfl⟩ := List.mem_map.mp hp
        rw [hone z hz e]) (NdefX.ndef_free (sc := defScope s_work) (fr := ["row", "self"]) (by decide +kernel)) (by rfl) (by rfl) (by rfl) sc_work.nd (by rfl) (Or.inl (by rfl)) (.inl (by rfl)))
    (pss_cons (ps_set (i := 4) sc_work.nd (by rfl) (Or.inl (by rfl)) (pe_callS Fw (hr.mono (by decide)) (by rfl) hmw hkw hbw (fun σ => L2N.passAt tk σ) (pa_cons (pe_dget hu1 (pe_fld (pe_var (i := 0) (by rfl) (.inr (.inl (by rfl)))) (by rfl)) (pe_var (i := 1) (by rfl) (.inl (by rfl))) (by exact fun _ _ => rfl)) (pa_cons (pe_var (i := 3) (by rfl) (.inl (by rfl))) pa_nil))))
    (pss_cons (ps_dput hu1 (pe_fld (pe_var (i := 0) (by rfl) (.inr (.inl (by rfl)))) (by rfl)) (pe_var (i := 1) (by rfl) (.inl (by rfl))) (pe_make (E := E) MK Fk hr (by rfl) hmk hbk .nil (fun pins σ H s e s' I c => tk e s' (L2N.XE.of_call I (fun cls d H' h => h) c)) (pa_cons (pe_var (i := 4) (by rfl) (.inl (by rfl))) (pa_cons (pe_var (i := 2) (by rfl) (.inr (.inl (by rfl)))) pa_nil))) (by rfl))
    (pss_one (ps_expr (pe_bm PySem.F.plainAttrs_list PySem.F.slot_list_append PySem.F.type_list_append mt_append (pe_fld (pe_var (i := 0) (by rfl) (.inr (.inl (by rfl)))) (by rfl)) (pa_cons (pe_var (i := 1) (by rfl) (.inl (by rfl))) pa_nil)) (by rfl)))))), ?_⟩
  refine ⟨(by show 0 ≤ sizeLine; decide), fun r hr0 => ?_⟩
  have p1 : Pe T H (upd H r (.lst [])) := .new hr0
  refine ⟨tabsN_of (p1.tb tb).at_, fun fr' c' H1 eN nn tN _ _ _ => ?_⟩
  have p2 : Pe T (upd H r (.lst [])) H1 := ⟨fun b o e i => eN b o e (no_tbl_of i), nn, fun t' => ⟨tabs_of tN, T.mono _ H1 (fun b o e fx => eN b o e fun ps z => by rw [z] at fx; cases fx) t'.inv⟩⟩
  have p12 := p1.trans p2
  have b1 := b.le p12
  refine ⟨_, rfl, a, C, dx, _, .ref t, rfl, b1.ob, L.c.cls, L.c.noT, rfl, _, rfl, t, .ref tp, rfl, DGet.k (k := .inr "la") b1.ht, _, rfl, ?_⟩
  refine ⟨tp, _, rfl, b1.hp, ?_⟩
  refine ⟨_, rfl, _, rfl, fun k dk hk0 hdk0 nk => ?_⟩
  refine ⟨k, dk, _, _, rfl, upd_same, rfl, ?_⟩
  -- the heap with the Known
  have kd : k ≠ dk := Ne.symm nk
  have na : a ≠ k := ne_of_none b1.ob hk0
  have nad : a ≠ dk := ne_of_none b1.ob hdk0
  have nkk : kn ≠ k := ne_of_none b1.hk hk0
  have nkd : kn ≠ dk := ne_of_none b1.hk hdk0
  have ndk : dn ≠ k := ne_of_none b1.hd hk0
  have ndd : dn ≠ dk := ne_of_none b1.hd hdk0
  have g : ∀ x o, x ≠ k → x ≠ dk → upd (upd (upd (upd H1 dk (.own k)) k (.ins CK dk [])) k (.ins CK dk [("own", .int 1)])) k (.ins CK dk [("own", .int 1), ("row", o)]) x = H1 x := fun x o h1 h2 => by rw [upd_ne h1, upd_ne h1, upd_ne h1, upd_ne h2]
  refine ⟨_, rfl, a, C, dx, _, .ref kn, rfl, (g a _ na nad).trans b1.ob, L.c.cls, L.noK, rfl, _, rfl, kn, _, rfl, DPut.k (k := .inr "la") ((g kn _ nkk nkd).trans b1.hk) (by show 0 < sizeLine; decide), ?_⟩
  have kn_dn : kn ≠ dn := fun z => by
    have := b1.hk
    rw [z, b1.hd] at this
    cases this
  have kn_a : a ≠ kn := fun z => by
    have := b1.hk
    rw [← z, b1.ob] at this
    cases this
  have hdn : ∀ u o, upd (upd (upd (upd (upd H1 dk (.own k)) k (.ins CK dk [])) k (.ins CK dk [("own", .int 1)])) k (.ins CK dk [("own", .int 1), ("row", o)])) kn u dn = some (.lst []) := fun u o => ((upd_ne (Ne.symm kn_dn)).trans (g dn _ ndk ndd)).trans b1.hd
  refine ⟨_, rfl, a, C, dx, _, .ref dn, rfl, ((upd_ne kn_a).trans (g a _ na nad)).trans b1.ob, L.c.cls, L.noD, rfl, .inl ⟨rfl, _, .inl (.inl (hdn _ _))⟩, _, rfl, dn, [], _, rfl, rfl, hdn _ _, (by show 0 < sizeLine; decide), ?_⟩
  refine q _ ?_
  have k1 : TabC T H1 := p12.tb tb
  have k2 : TabC T (upd H1 dk (.own k)) := (Pe.new (T := T) (o := .own k) hdk0).tb k1
  have k3 : TabC T (upd (upd H1 dk (.own k)) k (.ins CK dk [])) := (Pe.new (T := T) (o := .ins CK dk []) ((upd_ne kd).trans hk0)).tb k2
  have k4 := k3.upd (v := .ins CK dk [("own", .int 1)]) upd_same rfl rfl
  have k5 := k4.upd (v := .ins CK dk [("own", .int 1), ("row", .ref r)]) upd_same rfl rfl
  have k6 := k5.upd (p := kn) (v := .dK [(.inr "la", .ref k)]) ((g kn _ nkk nkd).trans b1.hk) rfl rfl
  have k7 := k6.upd (p := dn) (v := .lst [.str "la"]) (hdn _ _) rfl rfl
  refine ⟨fun x o h1 h2 e i => ?_, fun x e => ?_, k7, ⟨k, dk, .ref r, ?_, ?_⟩, ⟨_, upd_same⟩⟩
  · have e1 := p12.st x o e i
    rw [upd_ne h2, upd_ne h1, g x _ (ne_of_none e1 hk0) (ne_of_none e1 hdk0)]
    exact e1
  · by_cases z1 : x = dn
    · rw [z1, upd_same] at e; cases e
    rw [upd_ne z1] at e
    by_cases z2 : x = kn
    · rw [z2, upd_same] at e; cases e
    rw [upd_ne z2] at e
    by_cases z3 : x = k
    · rw [z3, upd_same] at e; cases e
    by_cases z4 : x = dk
    · rw [upd_ne z3, upd_ne z3, upd_ne z3, z4, upd_same] at e; cases e
    rw [g x _ z3 z4] at e
    exact p12.fr x e
  · exact (upd_ne kn_dn).trans upd_same
  · exact ((upd_ne (Ne.symm ndk)).trans (upd_ne (Ne.symm nkk))).trans upd_same
abbrev sc_value := sc_Looks_value
theorem ok_value0 (L : LooksF K C) (LK : KnownF K CK) {f : Addr} {fd : FuncData} (F : L2.Fun K "value" "Looks.value" s_Looks_value f fd) (F_need_name : FnD T ca P w K mg base 2 "need_name" 1 g_need_name) (F_need_looks : FnD T ca P w K mg base 1 "need_looks" 1 g_need_looks)
    {ff : Addr} {fdf : FuncData} (Ff : FnOk P w K mg base (L2N.CX P w) 1 ff fdf ["self", "name"] (spFresh C)) (Mf : Meth K C "is_fresh" ff) (hbf : L2.Binds K fdf ["self", "name"] [])
    {fo : Addr} {fdo : FuncData} (Fo : FnOk P w K mg base (L2N.CX P w) 3 fo fdo ["self", "name"] (spWork T C CK)) (Mo : Meth K C "work_out" fo) (hbo : L2.Binds K fdo ["self", "name"] []) :
    FnOk P w K mg base (L2N.CX P w) 4 f fd ["self", "name"] (spValue T C CK) := by
  obtain ⟨oc, od, kV, doc, pm, an, cdv, ct, osl, rfl, lk, hcd⟩ := F.ex
  refine fn_of lk hcd sc_Looks_value (fun vs H Q E ⟨_, _, _, _, _, _, _, e, _⟩ => by rw [e] <;> rfl) fun A outer s H vs Q E hr ⟨a, dx, n, t, kn, dn, tp, ev, b, tb, q⟩ => ?_
  subst ev
  have LC := L.c
  have hu := hu_at hr
  have hu1 : (A.deeper (envOfC "Looks.value" (defScope s_Looks_value) s.heap.objs.size f cdv)).units + 1 < cLine := by omega
  have tk : L2N.Takes (cxOf (L2N.CX P w) P w K mg base n_Looks_value "Looks.value" (defScope s_Looks_value) f cdv A outer s H E) (fun c d _ H => E c d H) := L2N.takes_of rfl rfl rfl rfl
  have ps : Passes (L2N.CX P w) (cxOf (L2N.CX P w) P w K mg base n_Looks_value "Looks.value" (defScope s_Looks_value) f cdv A outer s H E) E := fun pins σ H s e s' I c => tk e s' (L2N.XE.of_call I (fun cls d H' h => h) c)
  refine ⟨_, pss_cons (ps_expr (ie_call F_need_name hr (by decide) tk (ia_cons (ie_var (i := 1)) ia_nil)).pe (by rfl))
    (pss_cons (ps_expr (ie_call F_need_looks hr (by decide) tk (ia_cons (ie_inTerms hu LC (ie_var (i := 1)) (ie_var (i := 0))) ia_nil)).pe (by rfl))
    (pss_cons (ps_if (pt_not (pt_val (pe_meth (E := E) (pe_var (i := 0) (by rfl) (.inl (by rfl))) L.c.cls Mf Ff (hr.mono (by decide)) hbf .nil ps (pa_cons (pe_var (i := 1) (by rfl) (.inl (by rfl))) pa_nil)) (by intro _; rfl)))
      (pss_one (ps_expr (pe_meth (E := E) (pe_var (i := 0) (by rfl) (.inl (by rfl))) L.c.cls Mo Fo (hr.mono (by decide)) hbo .nil ps (pa_cons (pe_var (i := 1) (by rfl) (.inl (by rfl))) pa_nil)) (by rfl))) pss_nil)
    (pss_one (ps_ret (pe_fld (pe_dget hu1 (pe_fld (pe_var (i := 0) (by rfl) (.inl (by rfl))) (by rfl)) (pe_var (i := 1) (by rfl) (.inl (by rfl))) (by exact fun _ _ => rfl)) (by rfl)))))), ?_⟩
  have lv : Live T [] H := ⟨fun a ha => absurd ha (by simp), tb⟩
  let env1 : IL.Env := [some (obD [(.str "la", laD)] true), some (.str "la")]
  have rel : RelE K (hide [] H) env1 (L2.start n_Looks_value [.ref a, .str "la"]) := by
    refine ⟨rfl, fun i d e => ?_⟩
    rw [hide_nil]
    match i, e with
    | 0, e => cases e; exact ⟨_, rfl, .ob ⟨C, dx, n, L.c.g, b.ob⟩ (.inl b.ht) (.cons (k := .inr "la") (.tup b.hp (.cons (.str _) (.cons (.int _) .nil))) .nil) fun _ => ⟨.inl b.hk, .inl b.hd⟩⟩
    | 1, e => cases e; exact ⟨_, rfl, .str _⟩
  refine ⟨[], env1, lv, rel, ?_⟩
  rw [show mCallN 1 g_need_name (mCons (mVar 1) mNil) env1 = .ok .none from isNo0_of (by decide +kernel)]
  intro _ H1 p1 _
  refine ⟨[], env1, lv.le p1, rel.le p1, ?_⟩
  refine Eq.mpr (congrArg (fun r => Fin T ca _ _ _ H1 r _) (isNo0_of (by decide +kernel) : _ = Res.ok PyData.none)) ?_
  intro _ H2 p2 _
  have p := p1.trans p2
  have b2 := b.le p
  refine ⟨_, rfl, a, dx, _, rfl, b2.ob, rfl, _, rfl, a, dx, n, t, kn, dn, tp, rfl, b2, false, rfl, ?_⟩
  refine ⟨_, rfl, a, dx, _, rfl, b2.ob, rfl, _, rfl, a, dx, n, t, kn, dn, tp, rfl, b2, p.tb tb, fun H' wk => ?_⟩
  obtain ⟨k, dk, r, hk1, hk2⟩ := wk.hk
  have ak : a ≠ kn := fun z => by
    have := b2.hk
    rw [← z, b2.ob] at this
    cases this
  have ad : a ≠ dn := fun z => by
    have := b2.hd
    rw [← z, b2.ob] at this
    cases this
  refine ⟨_, rfl, a, C, dx, _, .ref kn, rfl, wk.st a _ ak ad b2.ob rfl, L.c.cls, L.noK, rfl, _, rfl, kn, .ref k, rfl, DGet.k (k := .inr "la") hk1, k, CK, dk, _, .int 1, rfl, hk2, LK.cls, LK.noO, rfl, ?_⟩
  exact q H' ⟨fun x o h1 h2 e i => wk.st x o h1 h2 (p.st x o e i) i, fun x e => p.fr x (wk.fr x e), wk.tb, ⟨k, dk, r, hk1, hk2⟩, wk.hd⟩
end
end K20
namespace K20
open PySem PySem.Spec PyProof.Rows L2 IL
/-! ### the statements that make, define, ask -/
section
variable {T : Gam} {K : PySem.W.Frag} {H0 H H' : Hp} {S0 os : List Addr} {env : SEnv} {σ : L2.St}
theorem set_at {α : Type} {env : List (Option α)} {i j : Nat} {z x : α} (e : (env.set i (some z))[j]? = some (some x)) : (j = i ∧ i < env.length ∧ x = z) ∨ (j ≠ i ∧ env[j]? = some (some x)) := by
  by_cases hj : i = j
  · subst hj
    by_cases hl : i < env.length
    · rw [List.getElem?_set_self hl] at e
      cases e
      exact .inl ⟨rfl, hl, rfl⟩
    · rw [List.getElem?_eq_none (by rw [List.length_set]; omega)] at e
      cases e
  · rw [List.getElem?_set_ne hj] at e
    exact .inr ⟨fun z => hj z.symm, e⟩
theorem newOb (r : RelS K T H0 S0 os env σ H) (p : Pe T H H') {x t kn dn : Addr} {kvs : List (Key × V)} {es : List (PyData × PyData)} (hx : H x = none) (ht : H t = none) (hk : H kn = none) (hd : H dn = none)
    (ob : ObAt K H' x t kn dn) (et : H' t = some (.dK kvs)) (ek : H' kn = some (.dK [])) (ed : H' dn = some (.lst [])) (rk : RpK K (hide (x :: t :: kn :: dn :: os ++ S0) H') kvs es) (i : Nat) :
    RelS K T H0 S0 (x :: t :: kn :: dn :: os) (env.set i (some (.own (obD es true)))) (σ.set i (some (.ref x))) H' := by
  obtain ⟨C, dx, n, e1, e2⟩ := ob.ex
  have nw : ∀ {a : Addr}, a ∈ [x, t, kn, dn] → H a = none := fun {a} h => by
    simp only [List.mem_cons, List.not_mem_nil, or_false] at h
    rcases h with rfl | rfl | rfl | rfl <;> assumption
  have nos : ∀ {q a : Addr}, q ∈ os → a ∈ [x, t, kn, dn] → q ≠ a := fun {q a} hq ha => by
    obtain ⟨u, e, _⟩ := r.lv.own q (List.mem_append_left _ hq)
    exact ne_of_none e (nw ha)
  have q : ∀ {a : Addr} {u : HO}, isTbl u = false → hide (os ++ S0) H a = some u → hide (x :: t :: kn :: dn :: os ++ S0) H' a = some u := fun {a u} n e => by
    obtain ⟨h1, h2⟩ := hide_some e
    refine (hide_in fun z => ?_).trans (p.st a u h2 n)
    rcases List.mem_append.mp (show a ∈ [x, t, kn, dn] ++ (os ++ S0) from z) with z | z
    · exact ne_of_none h2 (nw z) rfl
    · exact h1 z
  have l : RdLe (hide (os ++ S0) H) (hide (x :: t :: kn :: dn :: os ++ S0) H') := ⟨fun a u hu r => r.imp (q (isTbl_of_rd hu)) fun ⟨ob, r⟩ => ⟨ob, q rfl r⟩, fun a u hu r => q (isTbl_of_rigid hu) r⟩
  have x_t : x ≠ t := fun z => by rw [z, et] at e2; cases e2
  have x_k : x ≠ kn := fun z => by rw [z, ek] at e2; cases e2
  have x_d : x ≠ dn := fun z => by rw [z, ed] at e2; cases e2
  refine ⟨r.pe.trans p, r.lv0, ⟨fun a ha => ?_, p.tb r.lv.tb⟩, by rw [List.length_set, List.length_set]; exact r.len, fun j d' e => ?_, fun j d' e => ?_, fun q hq => ?_, fun j e q e1 e2 b hb => ?_, fun j k d1 d2 q e1 e2 e3 e4 => ?_⟩
  · rcases List.mem_append.mp (show a ∈ [x, t, kn, dn] ++ (os ++ S0) from ha) with z | z
    · simp only [List.mem_cons, List.not_mem_nil, or_false] at z
      rcases z with rfl | rfl | rfl | rfl
      · exact ⟨_, e2, rfl⟩
      · exact ⟨_, et, rfl⟩
      · exact ⟨_, ek, rfl⟩
      · exact ⟨_, ed, rfl⟩
    · exact (r.lv.le p).own a z
  · rcases set_at e with ⟨_, _, q⟩ | ⟨hj, e⟩
    · cases q
    · obtain ⟨w, h1, h2⟩ := r.val j d' e
      exact ⟨w, (List.getElem?_set_ne (fun z => hj z.symm)).trans h1, h2.le l⟩
  · rcases set_at e with ⟨rfl, hl, q⟩ | ⟨hj, e⟩
    · cases q
      exact ⟨x, List.getElem?_set_self (by rw [← r.len]; exact hl), List.mem_cons_self, .ob ob et rk fun _ => ⟨ek, ed⟩⟩
    · obtain ⟨w, h1, h2, h3⟩ := r.own j d' e
      exact ⟨w, (List.getElem?_set_ne (fun z => hj z.symm)).trans h1, List.mem_append_right [x, t, kn, dn] h2, h3.le l fun b u _ e n => p.st b u e n⟩
  · rcases List.mem_append.mp (show q ∈ [x, t, kn, dn] ++ os from hq) with z | z
    · exact r.pe.fr q (nw z)
    · exact r.fr q z
  · rcases set_at e1 with ⟨hj, hl1, q1⟩ | ⟨hj, e1'⟩
    · rw [hj, List.getElem?_set_self (by rw [← r.len]; exact hl1)] at e2
      cases e2
      rw [ob.parts] at hb
      have hb4 : b ∈ [x, t, kn, dn] := List.mem_cons_of_mem _ hb
      refine ⟨List.mem_append_left os hb4, fun k d2 k1 k2 => ?_⟩
      rcases set_at k1 with ⟨hk, hl2, _⟩ | ⟨hk, k1⟩
      · rw [hk, List.getElem?_set_self (by rw [← r.len]; exact hl2)] at k2
        cases k2
        simp only [List.mem_cons, List.not_mem_nil, or_false] at hb
        rcases hb with z | z | z
        · exact x_t z
        · exact x_k z
        · exact x_d z
      · rw [List.getElem?_set_ne (fun z => hk z.symm)] at k2
        obtain ⟨w, h1, h2, _⟩ := r.own k d2 k1
        rw [h1] at k2
        cases k2
        exact nos h2 hb4 rfl
    · rw [List.getElem?_set_ne (fun z => hj z.symm)] at e2
      obtain ⟨w, h1, h2, h3⟩ := r.own j e e1'
      rw [h1] at e2
      cases e2
      obtain ⟨u, hu, hn⟩ := h3.at_
      rw [parts_eq hu (p.st _ u hu hn)] at hb
      obtain ⟨g1, g2⟩ := r.po j e _ e1' h1 b hb
      refine ⟨List.mem_append_right [x, t, kn, dn] g1, fun k d2 k1 k2 => ?_⟩
      rcases set_at k1 with ⟨hk, hl2, _⟩ | ⟨hk, k1⟩
      · rw [hk, List.getElem?_set_self (by rw [← r.len]; exact hl2)] at k2
        cases k2
        exact nos g1 List.mem_cons_self rfl
      · rw [List.getElem?_set_ne (fun z => hk z.symm)] at k2
        exact g2 k d2 k1 k2
  · rcases set_at e1 with ⟨hj, hl1, q1⟩ | ⟨hj, e1'⟩
    · rcases set_at e2 with ⟨hk, _, q2⟩ | ⟨hk, e2'⟩
      · rw [hj, hk]
      · rw [hj, List.getElem?_set_self (by rw [← r.len]; exact hl1)] at e3
        cases e3
        rw [List.getElem?_set_ne (fun z => hk z.symm)] at e4
        obtain ⟨w, h1, h2, _⟩ := r.own k d2 e2'
        rw [h1] at e4
        cases e4
        exact absurd rfl (nos h2 List.mem_cons_self)
    · rw [List.getElem?_set_ne (fun z => hj z.symm)] at e3
      rcases set_at e2 with ⟨hk, hl2, q2⟩ | ⟨hk, e2'⟩
      · rw [hk, List.getElem?_set_self (by rw [← r.len]; exact hl2)] at e4
        cases e4
        obtain ⟨w, h1, h2, _⟩ := r.own j d1 e1'
        rw [h1] at e3
        cases e3
        exact absurd rfl (nos h2 List.mem_cons_self)
      · rw [List.getElem?_set_ne (fun z => hk z.symm)] at e4
        exact r.ap j k d1 d2 q e1' e2' e3 e4
/-- an owned instance works a look out -/
theorem workOb (r : RelS K T H0 S0 os env σ H) {i : Nat} {es : List (PyData × PyData)} (he : env[i]? = some (some (.own (obD es true)))) (so : ∀ j d, j ≠ i → env[j]? = some (some (.own d)) → isOb d = false) {a t kn dn : Addr} {kvs : List (Key × V)} (hσ : σ[i]? = some (some (.ref a))) (hao : a ∈ os)
    (ob : ObAt K H a t kn dn) (ht : H t = some (.dK kvs)) (rk : RpK K (hide (os ++ S0) H) kvs es) (tk : t ≠ kn) (td : t ≠ dn) (ak : a ≠ kn) (ad : a ≠ dn)
    (st : ∀ b o, b ≠ kn → b ≠ dn → H b = some o → isTbl o = false → H' b = some o) (fr : ∀ b, H' b = none → H b = none) (tb : TabC T H') (hk : ∃ kvs, H' kn = some (.dK kvs)) (hd : ∃ vs, H' dn = some (.lst vs)) :
    RelS K T H0 S0 os (env.set i (some (.own (obD es false)))) σ H' := by
  obtain ⟨C, dx, n, e1, e2⟩ := ob.ex
  have kno : kn ∈ os := (r.po i _ a he hσ kn (by rw [ob.parts]; simp)).1
  have dno : dn ∈ os := (r.po i _ a he hσ dn (by rw [ob.parts]; simp)).1
  have nok : ∀ (j : Nat) (d : PyData), env[j]? = some (some (Ent.own d)) → σ[j]? = some (some (V.ref kn)) → False := (r.po i _ a he hσ kn (by rw [ob.parts]; simp)).2
  have nod : ∀ (j : Nat) (d : PyData), env[j]? = some (some (Ent.own d)) → σ[j]? = some (some (V.ref dn)) → False := (r.po i _ a he hσ dn (by rw [ob.parts]; simp)).2
  have q : ∀ {a : Addr} {u : HO}, isTbl u = false → hide (os ++ S0) H a = some u → hide (os ++ S0) H' a = some u := fun {a u} n e => by
    obtain ⟨h1, h2⟩ := hide_some e
    exact (hide_in h1).trans (st a u (fun z => h1 (by rw [z]; exact List.mem_append_left _ kno)) (fun z => h1 (by rw [z]; exact List.mem_append_left _ dno)) h2 n)
  have l : RdLe (hide (os ++ S0) H) (hide (os ++ S0) H') := ⟨fun a u hu r => r.imp (q (isTbl_of_rd hu)) fun ⟨ob, r⟩ => ⟨ob, q rfl r⟩, fun a u hu r => q (isTbl_of_rigid hu) r⟩
  have hl : i < env.length := (List.getElem?_eq_some_iff.mp he).1
  have ob' : ObAt K H' a t kn dn := ⟨C, dx, n, e1, st a _ ak ad e2 rfl⟩
  have own' : ∀ {j : Nat} {e : PyData}, (env.set i (some (.own (obD es false))))[j]? = some (some (.own e)) → ∃ e', env[j]? = some (some (.own e')) := fun {j e} q => by
    rcases set_at q with ⟨rfl, _⟩ | ⟨_, q⟩
    · exact ⟨_, he⟩
    · exact ⟨e, q⟩
  have noparts : ∀ {w : Addr} {d : PyData}, isOb d = false → OwnAt K (hide (os ++ S0) H) H w d → parts H w = [] := fun {w d} no o => by
    cases o with
    | lst e _ => exact parts_no e rfl
    | dT e _ => exact parts_no e rfl
    | dK e _ => exact parts_no e rfl
    | ob => cases no
  refine ⟨⟨fun b u e n => ?_, fun b e => ?_, fun _ => tb⟩, r.lv0, ⟨fun b hb => ?_, tb⟩, by rw [List.length_set]; exact r.len, fun j e q => ?_, fun j e q => ?_, r.fr, fun j e q e1 e2 b hb => ?_, fun j k d1 d2 q e1 e2 e3 e4 => ?_⟩
  · refine st b u (fun z => ?_) (fun z => ?_) (r.pe.st b u e n) n
    · rw [z, r.fr kn kno] at e; cases e
    · rw [z, r.fr dn dno] at e; cases e
  · exact r.pe.fr b (fr b e)
  · by_cases z1 : b = kn
    · obtain ⟨kvs, z⟩ := hk; exact ⟨_, by rw [z1]; exact z, rfl⟩
    by_cases z2 : b = dn
    · obtain ⟨vs, z⟩ := hd; exact ⟨_, by rw [z2]; exact z, rfl⟩
    obtain ⟨o, h1, h2⟩ := r.lv.own b hb
    exact ⟨o, st b o z1 z2 h1 (isTbl_of_own h2), h2⟩
  · rcases set_at q with ⟨_, _, q⟩ | ⟨_, q⟩
    · cases q
    · obtain ⟨v, h1, h2⟩ := r.val j e q
      exact ⟨v, h1, h2.le l⟩
  · rcases set_at q with ⟨hj, _, q'⟩ | ⟨hj, q'⟩
    · cases q'
      exact ⟨a, by rw [hj]; exact hσ, hao, .ob ob' (st t _ tk td ht rfl) (rk.le l) fun z => nomatch z⟩
    · obtain ⟨w, h1, h2, h3⟩ := r.own j e q'
      refine ⟨w, h1, h2, h3.le l fun b u hb e n => ?_⟩
      rw [noparts (so j _ hj q') h3] at hb
      rcases hb with rfl | hb
      · exact st b u (fun z => nok j _ q' (by rw [← z]; exact h1)) (fun z => nod j _ q' (by rw [← z]; exact h1)) e n
      · cases hb
  · rcases set_at e1 with ⟨hj, _, q1⟩ | ⟨hj, e1'⟩
    · rw [hj, hσ] at e2
      cases e2
      rw [ob'.parts, ← ob.parts] at hb
      obtain ⟨g1, g2⟩ := r.po i _ a he hσ b hb
      exact ⟨g1, fun k d2 k1 k2 => let ⟨d3, k3⟩ := own' k1; g2 k d3 k3 k2⟩
    · obtain ⟨w, h1, h2, h3⟩ := r.own j e e1'
      rw [h1] at e2
      cases e2
      have hp0 := noparts (so j _ hj e1') h3
      obtain ⟨u, hu, hn⟩ := h3.at_
      have e5 : H' q = some u := st q u (fun z => nok j _ e1' (by rw [← z]; exact h1)) (fun z => nod j _ e1' (by rw [← z]; exact h1)) hu hn
      rw [parts_eq hu e5, hp0] at hb
      cases hb
  · obtain ⟨d1', q1⟩ := own' e1
    obtain ⟨d2', q2⟩ := own' e2
    exact r.ap j k d1' d2' q q1 q2 e3 e4
end
def bookD (fresh : Bool) : PyData := obD [(.str "la", laD)] fresh
def sNewOb (i : Nat) : Sv := fun env => if i < env.length then .nx (env.set i (some (.own (bookD true)))) else .stuck
/-- no other name owns an instance -/
def Sole (env : SEnv) (i : Nat) : Prop := ∀ (j : Nat) (d : PyData), j ≠ i → env[j]? = some (some (.own d)) → isOb d = false
open Classical in
noncomputable def sIfValue (i : Nat) (ta tb : IL.Env → Res Bool) : Sv := fun env => liftR (ta (vis env)) fun x => if x = true then .ret (.bool false) else liftR (tb (vis env)) fun y => if y = true then .ret (.bool false) else
  if env[i]? = some (some (.own (bookD true))) ∧ Sole env i then .nx (env.set i (some (.own (bookD false)))) else .stuck
section
variable {T : Gam} {ca : XC → Addr} {X : Cx} {W : WX} {rest : List Stmt} {a b : Expr} {pos : Pos} {m : Sv} {ta tb : IL.Env → Res Bool} {C CK : Addr}
theorem pass0I : Passes (L2N.CX X.prog X.w) X (fun _ _ _ => False) := fun pins σ H s e s' I c => tk0 e s' (L2N.XE.of_call I (fun cls d H' h => h) c)
theorem iss_new2 {i : Nat} {x : Str} {p1 p2 p3 p4 p5 p6 p7 p8 p9 p10 p11 p12 p13 : Pos} {j1 j2 j3} {xt} (L : LooksF X.K C) {fi fd_ : Addr} {fdi fdd : FuncData} (MI : Mk X.K C fi) (Fi : FnOk X.prog X.w X.K X.mg X.base (L2N.CX X.prog X.w) 5 fi fdi ["self", "state"] (spInit T C)) (hbi : L2.Binds X.K fdi ["self", "state"] [])
    (MD : Meth X.K C "define" fd_) (Fd : FnOk X.prog X.w X.K X.mg X.base (L2N.CX X.prog X.w) 16 fd_ fdd ["self", "name", "term"] (spDef T X.K C)) (hbd : L2.Binds X.K fdd ["self", "name", "term"] []) {j : Nat} (hr : Room j X.A) (hj : 16 ≤ j) (hm : X.mg "Looks" = some (.ref C)) (hN : X.N.Nodup) (h : ISs T ca X W rest m) (hi : X.N[i]? = some x := by rfl)
    (hx : Loc X.env.scope x := by first | exact Or.inl rfl | exact Or.inr rfl) (hv : Vis X.env.scope x := by first | exact Or.inl rfl | exact Or.inr (Or.inl rfl) | exact Or.inr (Or.inr rfl)) (hg : L2.Gl X "Looks" := by rfl) (hs : swapsWith (.Call (.Name "Looks" p1) [.Dict [] [] p2] [] p3) (some (.Name x p4)) p5.line X.env = pure false := by rfl) (hf : X.fn x = true ∨ X.env.scope.names.lookup x = some .local := by first | exact .inl rfl | exact .inr rfl)
    (hd : (x == ("__debug__" : Str)) = false := by decide) (hcd : (x == ("__classdict__" : Str)) = false := by decide) 
    (he1 : starEach [.Dict [] [] p2] X.env = (false, eval (.Dict [] [] p2) X.env) :: starEach [] X.env := by rfl) (hpl1 : (backTo p3 (starEach [] X.env)).any (·.1) = false := by rfl)
    (hst : starEach [.Constant (.str "la") j1 p8, .Tuple [.Constant (.str "num") j2 p9, .Constant (.int 1) j3 p10] xt p11] X.env = (false, eval (.Constant (.str "la") j1 p8) X.env) :: starEach [.Tuple [.Constant (.str "num") j2 p9, .Constant (.int 1) j3 p10] xt p11] X.env := by rfl)
    (hst2 : starEach [.Tuple [.Constant (.str "num") j2 p9, .Constant (.int 1) j3 p10] xt p11] X.env = (false, eval (.Tuple [.Constant (.str "num") j2 p9, .Constant (.int 1) j3 p10] xt p11) X.env) :: starEach [] X.env := by rfl)
    (hst3 : starEach [.Constant (.str "num") j2 p9, .Constant (.int 1) j3 p10] X.env = (false, eval (.Constant (.str "num") j2 p9) X.env) :: starEach [.Constant (.int 1) j3 p10] X.env := by rfl) (hst4 : starEach [.Constant (.int 1) j3 p10] X.env = (false, eval (.Constant (.int 1) j3 p10) X.env) :: starEach [] X.env := by rfl)
    (hpl2 : (backTo p12 (starEach [.Tuple [.Constant (.str "num") j2 p9, .Constant (.int 1) j3 p10] xt p11] X.env)).any (·.1) = false := by rfl) {pl : Sem Bool}
    (ht : eval (.Call (.Attribute (.Name x p6) "define" p7) [.Constant (.str "la") j1 p8, .Tuple [.Constant (.str "num") j2 p9, .Constant (.int 1) j3 p10] xt p11] [] p12) X.env = (do
      let ov ← eval (.Name x p6) X.env
      standAt p7.atName
      let (f, first) ← holding [ov] (getMethod ov "define" pl)
      callWith p12 f first (backTo p12 (starEach [.Constant (.str "la") j1 p8, .Tuple [.Constant (.str "num") j2 p9, .Constant (.int 1) j3 p10] xt p11] X.env)) (backToKw p12 (keywordEach [] X.env))) := by rfl)
    (hs2 : swapsWith (.Call (.Attribute (.Name x p6) "define" p7) [.Constant (.str "la") j1 p8, .Tuple [.Constant (.str "num") j2 p9, .Constant (.int 1) j3 p10] xt p11] [] p12) none p13.line X.env = pure false := by rfl) :
    ISs T ca X W (.Assign [.Name x p4] (.Call (.Name "Looks" p1) [.Dict [] [] p2] [] p3) p5 :: .Expr (.Call (.Attribute (.Name x p6) "define" p7) [.Constant (.str "la") j1 p8, .Tuple [.Constant (.str "num") j2 p9, .Constant (.int 1) j3 p10] xt p11] [] p12) p13 :: rest) (mSeq (sNewOb i) m) := by
  refine ⟨pss_imp (pss_cons (ps_set (i := i) hN hi hx (pe_make (E := fun _ _ _ => False) MI Fi (hr.mono (by omega)) hg hm hbi .nil pass0I (pa_cons pe_dnewK pa_nil he1) (by decide) he1 hpl1) hs hf)
    (pss_cons (ps_expr (pe_meth (pl := pl) (E := fun _ _ _ => False) (pe_var hi hv hd hcd) L.c.cls MD Fd (hr.mono hj) hbd .nil pass0I (pa_cons pe_str (pa_cons (pe_tup (pa_cons pe_str (pa_cons pe_int pa_nil hst4) hst3)) pa_nil hst2) hst) hst hpl2 ht) hs2) h.ps)) fun D σ H ⟨H0, S0, os, env, rel, fin⟩ => ?_⟩
  have hil : i < env.length := by
    by_cases h : i < env.length
    · exact h
    · rw [show mSeq (sNewOb i) m env = .stuck from by unfold mSeq sNewOb; rw [if_neg h]] at fin
      exact fin.elim
  have fin : EndS X.K T ca W D H0 S0 (m (env.set i (some (.own (bookD true))))) := by
    rw [show mSeq (sNewOb i) m env = m (env.set i (some (.own (bookD true)))) from by unfold mSeq sNewOb; rw [if_pos hil]] at fin
    exact fin
  intro st hst a dx ha hdx nad
  have a_st : a ≠ st := fun z => by rw [z, upd_same] at ha; cases ha
  have d_st : dx ≠ st := fun z => by rw [z, upd_same] at hdx; cases hdx
  rw [upd_ne a_st] at ha
  rw [upd_ne d_st] at hdx
  have t1 := (Pe.new (T := T) (o := .dK []) hst).tb rel.lv.tb
  have t2 := (Pe.new (T := T) (o := .own a) ((upd_ne d_st).trans hdx)).tb t1
  have t3 := (Pe.new (T := T) (o := .ins C dx []) ((upd_ne (Ne.symm nad)).trans ((upd_ne a_st).trans ha))).tb t2
  refine ⟨a, st, dx, rfl, upd_same, (upd_ne (Ne.symm a_st)).trans ((upd_ne (Ne.symm d_st)).trans upd_same), t3, fun H' t kn dn md => ⟨rfl, ?_⟩⟩
  obtain ⟨n, ob⟩ := md.ob
  have un : ∀ {b : Addr}, upd (upd (upd H st (.dK [])) dx (.own a)) a (.ins C dx []) b = none → H b = none := fun {b} e => by
    by_cases z1 : b = a
    · rw [z1, upd_same] at e; cases e
    rw [upd_ne z1] at e
    by_cases z2 : b = dx
    · rw [z2, upd_same] at e; cases e
    rw [upd_ne z2] at e
    by_cases z3 : b = st
    · rw [z3, upd_same] at e; cases e
    rwa [upd_ne z3] at e
  have p1 : Pe T H H' := ⟨fun b o e i => by
    refine md.st b o (ne_of_none e ha) ?_ i
    rw [upd_ne (ne_of_none e ha), upd_ne (ne_of_none e hdx), upd_ne (ne_of_none e hst)]
    exact e, fun b e => un (md.fr b e), fun _ => md.tb⟩
  refine ⟨_, List.getElem?_set_self (by rw [← rel.len]; exact hil), a, dx, _, rfl, ob, rfl, ?_⟩
  refine ⟨(by show 2 ≤ sizeLine; decide), fun tp htp => ?_⟩
  have p2 : Pe T H' (upd H' tp (.tup [.str "num", .int 1])) := .new htp
  have a_tp : a ≠ tp := ne_of_none ob htp
  have t_tp : t ≠ tp := ne_of_none md.ht.1 htp
  have k_tp : kn ≠ tp := ne_of_none md.hk.1 htp
  have d_tp : dn ≠ tp := ne_of_none md.hd.1 htp
  refine ⟨a, t, kn, dn, tp, dx, n, rfl, (upd_ne a_tp).trans ob, (upd_ne t_tp).trans md.ht.1, (upd_ne k_tp).trans md.hk.1, (upd_ne d_tp).trans md.hd.1, upd_same, p2.tb md.tb, fun H1 p3 => ?_⟩
  have p23 := p2.trans p3
  have p13 := p1.trans p23
  have a_t : a ≠ t := fun z => by
    have := md.ht.1
    rw [← z, ob] at this
    cases this
  have e_a := p23.st a _ ob rfl
  have e_t := p23.st t _ md.ht.1 rfl
  have e_k := p23.st kn _ md.hk.1 rfl
  have e_d := p23.st dn _ md.hd.1 rfl
  have e_tp : H1 tp = some (.tup [.str "num", .int 1]) := p3.st tp _ upd_same rfl
  have tp_t : tp ≠ t := Ne.symm t_tp
  have pF : Pe T H (upd H1 t (.dK [(.inr "la", .ref tp)])) := ⟨fun b o e i => by
    rw [upd_ne (ne_of_none e (un md.ht.2))]
    exact p13.st b o e i, fun b e => by
      by_cases z : b = t
      · rw [z]; exact un md.ht.2
      · rw [upd_ne z] at e; exact p13.fr b e, fun tt => (p13.tb tt).upd e_t rfl rfl⟩
  have oba : ObAt X.K (upd H1 t (.dK [(.inr "la", .ref tp)])) a t kn dn := ⟨C, dx, n, L.c.g, (upd_ne a_t).trans e_a⟩
  have tpn : H tp = none := p1.fr tp htp
  have tp_a : tp ≠ a := fun z => by rw [z, e_a] at e_tp; cases e_tp
  have tp_k : tp ≠ kn := fun z => by rw [z, e_k] at e_tp; cases e_tp
  have tp_d : tp ≠ dn := fun z => by rw [z, e_d] at e_tp; cases e_tp
  have noS : tp ∉ a :: t :: kn :: dn :: os ++ S0 := fun z => by
    rcases List.mem_append.mp (show tp ∈ [a, t, kn, dn] ++ (os ++ S0) from z) with z | z
    · simp only [List.mem_cons, List.not_mem_nil, or_false] at z
      rcases z with z | z | z | z
      · exact tp_a z
      · exact tp_t z
      · exact tp_k z
      · exact tp_d z
    · exact rel.lv.no tpn z
  exact ⟨H0, S0, _, _, newOb rel pF ha (un md.ht.2) (un md.hk.2) (un md.hd.2) oba upd_same ((upd_ne (Ne.symm md.ne.1)).trans e_k) ((upd_ne (Ne.symm md.ne.2.1)).trans e_d)
    (.cons (k := .inr "la") (.tup ((hide_in noS).trans ((upd_ne tp_t).trans e_tp)) (.cons (.str _) (.cons (.int _) .nil))) .nil) i, fin⟩
end
end K20
namespace K20
open PySem PySem.Spec PyProof.Rows L2 IL
/-- Looks(..) of what is no state -/
def spInitX (T : Gam) (ca : XC → Addr) (K : PySem.W.Frag) (C : Addr) : Sp := fun vs H _ E => ∃ a v dx S d c, vs = [.ref a, v] ∧ H a = some (.ins C dx []) ∧ Live T S H ∧ Rp K (hide S H) v d ∧ g_need_state [d] = .exc c ∧ ∀ H', Pe T H H' → E (.ref (ca c)) none H'
def mNewX (m : Ev) : Ev := fun env => (m env).bind fun d => match g_need_state [d] with
  | .exc c => .exc c
  | _ => .stuck
section
variable {T : Gam} {ca : XC → Addr} {P : Program} {w : World} {K : PySem.W.Frag} {mg : Str → Option Value} {base : Heap} {C : Addr}
theorem ok_initX (G : Gl ca K w mg) {f : Addr} {fd : FuncData} (F : L2.Fun K "__init__" "Looks.__init__" s_init f fd) (F_need_state : FnD T ca P w K mg base 4 "need_state" 1 g_need_state) : FnOk P w K mg base (L2N.CX P w) 5 f fd ["self", "state"] (spInitX T ca K C) := by
  obtain ⟨oc, od, kV, doc, pm, an, cdv, ct, osl, rfl, lk, hcd⟩ := F.ex
  refine fn_of lk hcd sc_init (fun vs H Q E ⟨a, v, dx, S, d, c, e, _⟩ => by rw [e] <;> rfl) fun A outer s H vs Q E hr ⟨a, v, dx, S, d, c, ev, ha, lv, rv, ex, q⟩ => ?_
  subst ev
  have tk : L2N.Takes (cxOf (L2N.CX P w) P w K mg base n_init "Looks.__init__" (defScope s_init) f cdv A outer s H E) (fun c d _ H => E c d H) := L2N.takes_of rfl rfl rfl rfl
  obtain ⟨fn, fdn, ps, hps, Fn, hmn, hkn, hbn⟩ := F_need_state.ex
  refine ⟨_, pss_cons (ps_expr (pe_callS Fn hr (by rfl) hmn hkn hbn (fun σ => L2N.passAt tk σ) (pa_cons (pe_var (i := 1) (by rfl) (.inl (by rfl))) pa_nil)) (by rfl))
    (pss_cons ps_never (pss_cons ps_never (pss_cons ps_never (pss_one ps_never)))), ?_⟩
  refine ⟨_, rfl, rfl, S, [d], lv, .cons rv .nil, ?_⟩
  rw [ex]
  exact fun H' p => q H' p
end
section
variable {T : Gam} {ca : XC → Addr} {X : Cx} {W : WX} {e a b : Expr} {pos : Pos} {me : Ev} {ta tb : IL.Env → Res Bool} {C CK : Addr}
theorem ie_newX {p : Pos} {fi : Addr} {fdi : FuncData} (MI : Mk X.K C fi) (Fi : FnOk X.prog X.w X.K X.mg X.base (L2N.CX X.prog X.w) 5 fi fdi ["self", "state"] (spInitX T ca X.K C)) (hbi : L2.Binds X.K fdi ["self", "state"] []) {j : Nat} (hr : Room j X.A) (hj : 6 ≤ j) (hm : X.mg "Looks" = some (.ref C)) (tk : L2N.Takes X W) (hW : ∃ E : XK, ∀ c d σ H, W c d σ H ↔ E c d H)
    (h : IE T ca X W e me) (hg : L2.Gl X "Looks" := by rfl) (he : starEach [e] X.env = (false, eval e X.env) :: starEach [] X.env := by rfl) (hpl : (backTo pos (starEach [] X.env)).any (·.1) = false := by rfl) :
    IE T ca X W (.Call (.Name "Looks" p) [e] [] pos) (mNewX me) := by
  obtain ⟨E, hE⟩ := hW
  refine ⟨pe_imp (pe_make (E := E) MI Fi (hr.mono hj) hg hm hbi .nil (fun pins σ H s e s' I c => tk e s' (L2N.XE.of_call I (fun cls d H' h => (hE cls d σ H').mpr h) c)) (pa_cons h.pe pa_nil he) (by decide) he hpl) fun σ H Q ⟨S, env, lv, rel, fin⟩ => ?_⟩
  refine ⟨S, env, lv, rel, Fin.bind (R' := Rv X.K S) fin fun d v H1 _ p1 r1 f1 => ?_⟩
  intro x dx hx hdx nd
  have q1 : Pe T H1 (upd H1 dx (.own x)) := .new hdx
  have q2 : Pe T (upd H1 dx (.own x)) (upd (upd H1 dx (.own x)) x (.ins C dx [])) := .new ((upd_ne (Ne.symm nd)).trans hx)
  have q := q1.trans q2
  cases ex : g_need_state [d] with
  | ok z => rw [ex] at f1; exact f1.elim
  | stuck => rw [ex] at f1; exact f1.elim
  | exc c =>
    rw [ex] at f1
    exact ⟨x, v, dx, S, d, c, rfl, upd_same, (lv.le p1).le q, r1.le q.rd, ex, fun H' p' => (hE _ _ σ _).mp (f1 H' (q.trans p'))⟩
theorem rpK_str {K : PySem.W.Frag} {G : Hp} {kvs : List (Key × V)} {es : List (PyData × PyData)} (r : RpK K G kvs es) : ∀ x d rest, es = (.str x, d) :: rest → ∃ v kvs', kvs = (.inr x, v) :: kvs' ∧ Rp K G v d ∧ RpK K G kvs' rest := by
  cases r with
  | nil => intro _ _ _ h; cases h
  | @cons k v kvs d es h r =>
    intro x d' rest e
    obtain ⟨e1, rfl⟩ := List.cons.inj e
    obtain ⟨e2, rfl⟩ := Prod.mk.inj e1
    cases k with
    | inl i => cases e2
    | inr y =>
      cases e2
      exact ⟨v, kvs, rfl, h, r⟩
/-- the entry of the book, read -/
theorem book_of {K : PySem.W.Frag} {G H : Hp} {a : Addr} (o : OwnAt K G H a (bookD true)) (hg : RdLe G H) : ∃ t kn dn tp, ObAt K H a t kn dn ∧ H t = some (.dK [(.inr "la", .ref tp)]) ∧ H tp = some (.tup [.str "num", .int 1]) ∧ RpK K G [(.inr "la", .ref tp)] [(.str "la", laD)] ∧ H kn = some (.dK []) ∧ H dn = some (.lst []) := by
  generalize hd : bookD true = d at o
  cases o with
  | lst e r => cases hd
  | dT e r =>
    cases hd
    cases r
  | dK e r => cases hd
  | @ob t kn dn kvs es fresh ho ht r hf =>
    cases hd
    obtain ⟨hk, hdn⟩ := hf rfl
    obtain ⟨v, kvs', rfl, h, r'⟩ := rpK_str r _ _ _ rfl
    cases r'
    obtain ⟨tp, xs, rfl, h1, r1⟩ := rp_tup h
    cases r1 with
    | cons a1 r1 => cases r1 with
      | cons a2 r1 =>
        cases r1
        cases rp_str a1
        cases rp_int a2
        exact ⟨t, kn, dn, tp, ho, ht, hg.tp _ _ rfl h1, .cons (k := .inr "la") h .nil, hk, hdn⟩
theorem is_ifValue {i : Nat} {x : Str} {q0 q1 q2 q3 q4 q5 q6 q7 q8 : Pos} {j1 j2 j3} (L : LooksF X.K C) {fv : Addr} {fdv : FuncData} (MV : Meth X.K C "value" fv) (Fv : FnOk X.prog X.w X.K X.mg X.base (L2N.CX X.prog X.w) 4 fv fdv ["self", "name"] (spValue T C CK)) (hbv : L2.Binds X.K fdv ["self", "name"] []) {j : Nat} (hr : Room j X.A) (hj : 4 ≤ j)
    (hA : IT T ca X W a ta) (hB : IT T ca X W b tb) (hi : X.N[i]? = some x := by rfl) (hv : Vis X.env.scope x := by first | exact Or.inl rfl | exact Or.inr (Or.inl rfl) | exact Or.inr (Or.inr rfl)) (hd : (x == ("__debug__" : Str)) = false := by decide) (hcd : (x == ("__classdict__" : Str)) = false := by decide)
    (hst : starEach [.Constant (.str "la") j1 q2] X.env = (false, eval (.Constant (.str "la") j1 q2) X.env) :: starEach [] X.env := by rfl) (hpl : (backTo q3 (starEach [] X.env)).any (·.1) = false := by rfl) {pl : Sem Bool}
    (ht : eval (.Call (.Attribute (.Name x q0) "value" q1) [.Constant (.str "la") j1 q2] [] q3) X.env = (do
      let ov ← eval (.Name x q0) X.env
      standAt q1.atName
      let (f, first) ← holding [ov] (getMethod ov "value" pl)
      callWith q3 f first (backTo q3 (starEach [.Constant (.str "la") j1 q2] X.env)) (backToKw q3 (keywordEach [] X.env))) := by rfl) :
    IS T ca X W (.If (.BoolOp .Or [a, b, .Compare (.Call (.Attribute (.Name x q0) "value" q1) [.Constant (.str "la") j1 q2] [] q3) [.NotEq] [.Constant (.int 1) j2 q4] q5] q6) [.Return (some (.Constant (.bool false) j3 q7)) q8] [] pos) (sIfValue i ta tb) :=
  ⟨ps_imp (ps_if (pw_or hA.pt (pw_or hB.pt (pw_or1 (pt_cmpR op_ne (pe_meth (pl := pl) (E := fun _ _ _ => False) (pe_var hi hv hd hcd) L.c.cls MV Fv (hr.mono hj) hbv .nil pass0I (pa_cons pe_str pa_nil hst) hst hpl ht) pe_int (nomark _))))).pt (pss_one (ps_ret pe_bl)) pss_nil) fun D σ H ⟨H0, S0, os, env, rel, fin⟩ => by
    refine ⟨S0, vis env, rel.liveS, rel.visE, fin_hid (R := Rb) rel fin fun d v H1 p rel1 rv f => ?_⟩
    cases (show v = d from rv)
    cases d with
    | true =>
      rw [if_pos rfl] at f ⊢
      exact f _ _ rel1.pe (.bl false)
    | false =>
      rw [if_neg Bool.false_ne_true] at f ⊢
      refine ⟨S0, vis env, rel1.liveS, rel1.visE, fin_hid (R := Rb) rel1 f fun d v H2 p2 rel2 rv f2 => ?_⟩
      cases (show v = d from rv)
      cases d with
      | true =>
        rw [if_pos rfl] at f2 ⊢
        exact f2 _ _ rel2.pe (.bl false)
      | false =>
        rw [if_neg Bool.false_ne_true] at f2 ⊢
        split at f2
        · rename_i hc
          obtain ⟨he, so⟩ := hc
          obtain ⟨pa, h1, h2, h3⟩ := rel2.own i _ he
          have hg : RdLe (hide (os ++ S0) H2) H2 := by
            have z := hide_le (S := os ++ S0) (H := H2) (S' := []) (fun _ h => nomatch h)
            rw [hide_nil] at z
            exact z
          obtain ⟨t, kn, dn, tp, ob, et, etp, rk, ek, ed⟩ := book_of h3 hg
          obtain ⟨C', dx, n, e1, e2⟩ := ob.ex
          have hC : C' = C := by
            have := e1.symm.trans L.c.g
            cases this
            rfl
          subst hC
          refine ⟨_, h1, pa, dx, _, rfl, e2, rfl, pa, dx, n, t, kn, dn, tp, rfl, ⟨e2, et, ek, ed, etp⟩, rel2.lv.tb, fun H' wk => ?_⟩
          have eqk : ∀ {x y : Addr} {o u : HO}, H2 x = some o → H2 y = some u → o ≠ u → x ≠ y := fun {x y o u} h1 h2 h z => by
            rw [z, h2] at h1
            exact h (Option.some.inj h1).symm
          refine ⟨rfl, _, rfl, ?_⟩
          dsimp only
          rw [if_neg (by decide)]
          refine f2 _ _ _ (workOb rel2 he so h1 h2 ob et rk (eqk et ek (by intro z; cases z)) (eqk et ed (by intro z; cases z)) (eqk e2 ek (by intro z; cases z)) (eqk e2 ed (by intro z; cases z)) wk.st wk.fr wk.tb ?_ wk.hd)
          obtain ⟨k, dk, r, g1, g2⟩ := wk.hk
          exact ⟨_, g1⟩
        · exact f2.elim⟩
end
end K20
namespace K20
open PySem PySem.Spec PyProof.Rows L2 IL
abbrev s_told : Stmt := top 45
abbrev n_told : List Str := ["_law_deed", "_law_e"]
theorem sc_told : FnScope n_told ["_law_deed"] (defScope s_told) := ⟨rfl, rfl, rfl, by decide +kernel, rfl, by decide +kernel, by decide +kernel⟩
abbrev s_word : Stmt := top 44
abbrev nWord : List Str := ["_law_e", "_law_flags", "_law_flag"]
theorem scWord : FnScope nWord ["_law_e"] (defScope s_word) := ⟨rfl, rfl, rfl, by decide +kernel, rfl, by decide +kernel, by decide +kernel⟩
def six : List XC := [.deed, .look, .number, .path, .state, .storm]
def pos6 : XC → Nat
  | .deed => 0
  | .look => 1
  | .number => 2
  | .path => 3
  | .state => 4
  | .storm => 5
  | .text => 0
section
variable {T : Gam} {ca : XC → Addr} {P : Program} {w : World} {K : PySem.W.Frag} {mg : Str → Option Value} {base : Heap}
theorem ok_word {f : Addr} {fd : FuncData} (F : L2.Fun K "_law_word" "_law_word" s_word f fd) (X : ExcAll six ca K mg) : FnW six T ca nmX P w K mg base 1 f fd ["_law_e"] := by
  refine run_word F scWord rfl fun CX cdv A outer s H Q E p c S0 hot hz1 hz2 hf hcs lv hq => ?_
  have hp : p ∈ (L2H.cxH CX P w K mg base nWord "_law_word" (defScope s_word) f cdv A outer s H E p).pn := List.mem_cons_self
  have isE : ∀ (d : XC) (q q1 q2 pos : Pos), d ∈ six → L2.Gl (L2H.cxH CX P w K mg base nWord "_law_word" (defScope s_word) f cdv A outer s H E p) (nmX d) → 
      PE (L2H.cxH CX P w K mg base nWord "_law_word" (defScope s_word) f cdv A outer s H E p) (.Call (.Name "isinstance" q) [.Name "_law_e" q1, .Name (nmX d) q2] [] pos) fun σ H Q => σ[0]? = some (some (.ref p.1)) ∧ Q (.bl (decide (c = d))) H := fun d q q1 q2 pos hd hg =>
    pe_isH (i := 0) hp (X.C c hcs) ⟨hz1, hz2⟩ hf rfl (.inl rfl) (pe_glob (v := .ref (ca d)) hg (X.g d hd) rfl (by cases d <;> decide)) (fun u r => r) (X.kit c hcs d hd) rfl X.isi
  have isV : ∀ (q q1 q2 pos : Pos), PE (L2H.cxH CX P w K mg base nWord "_law_word" (defScope s_word) f cdv A outer s H E p) (.Call (.Name "isinstance" q) [.Name "_law_e" q1, .Name "ValueError" q2] [] pos) fun σ H Q => σ[0]? = some (some (.ref p.1)) ∧ Q (.bl true) H := fun q q1 q2 pos =>
    pe_isH (i := 0) hp (X.C c hcs) ⟨hz1, hz2⟩ hf rfl (.inl rfl) (pe_bltn (v := .ty "ValueError") rfl X.ve (by decide +kernel) rfl) (fun u r => r) (X.kitV c hcs) rfl X.isi
  refine ⟨_, pss_cons (ps_set (i := 1) scWord.nd rfl (Or.inl rfl) (pe_lst (pa_cons (isE .deed _ _ _ _ (by decide) rfl) (pa_cons (isE .look _ _ _ _ (by decide) rfl) (pa_cons (isE .number _ _ _ _ (by decide) rfl) pa_nil)))))
    (pss_cons (ps_set (i := 1) scWord.nd rfl (Or.inl rfl) (pe_op op_catL (pe_var (i := 1) rfl (.inl rfl)) (pe_lst (pa_cons (isE .path _ _ _ _ (by decide) rfl) pa_nil))))
    (pss_cons (ps_set (i := 1) scWord.nd rfl (Or.inl rfl) (pe_op op_catL (pe_var (i := 1) rfl (.inl rfl)) (pe_lst (pa_cons (isE .state _ _ _ _ (by decide) rfl) (pa_cons (isE .storm _ _ _ _ (by decide) rfl) pa_nil)))))
    (pss_cons (ps_if (pw_or (pt_cmpR op_ne (pe_callB (cr_sumH ⟨p, hot, hp⟩) (by rfl) X.sm (by decide +kernel) (pa_cons (pe_lcH (own := [("_law_flag", 2)]) hp hot scWord.nd (pi_listH (pe_var (i := 1) rfl (.inl rfl))) (blkOk_by (by show blkC nWord (defScope s_word) _ _ = true; decide +kernel)) (fun s H C cl fp => pg_name (i := 2) scWord.nd rfl (Or.inl rfl) (.inr rfl)) (fun s H C cl fp => pts_nil) (fun s H C cl fp => pe_callTy call_int1 (by rfl) X.it (by decide +kernel) (pa_cons (pe_var (i := 2) rfl (.inl rfl)) pa_nil))) pa_nil)) pe_int (nomark _)) (pw_or1 (pt_not (pt_val (isV _ _ _ _))))).pt (pss_one (ps_ret (pe_tup (pa_cons pe_str (pa_cons pe_str pa_nil))))) pss_nil)
    (pss_one (ps_ret (pe_tup (pa_cons pe_str (pa_cons (pe_ix ix_list (pe_lst (pa_cons pe_str (pa_cons pe_str (pa_cons pe_str (pa_cons pe_str (pa_cons pe_str (pa_cons pe_str pa_nil))))))) (pe_bm PySem.F.plainAttrs_list (T := "list") (id := "list.index") (by exact PySem.F.slot_list_index) (by rfl) mt_index (pe_var (i := 1) rfl (.inl rfl)) (pa_cons pe_bl pa_nil)) (by exact fun _ _ => rfl)) pa_nil)))))))), ?_⟩
  refine ⟨rfl, rfl, rfl, (by show 3 ≤ sizeLine; decide), fun p1 i1 => ?_⟩
  refine ⟨_, rfl, rfl, (by show 1 ≤ sizeLine; decide), fun p2 i2 => ⟨p1, p2, _, _, rfl, rfl, sq_upd (.inl (.inl upd_same)) i2, .inl (.inl upd_same), (by show 4 ≤ sizeLine; decide), fun p3 i3 => ?_⟩⟩
  refine ⟨_, rfl, rfl, rfl, (by show 2 ≤ sizeLine; decide), fun p4 h4 => ⟨p3, p4, _, _, rfl, rfl, sq_upd (.inl (.inl upd_same)) h4, .inl (.inl upd_same), (by show 6 ≤ sizeLine; decide), fun p5 h5 => ?_⟩⟩
  dsimp only [gName, tSeq, tIfS, tOr, tTest, tOp, tCB, tCons, tNil]
  refine lc_flags (K := K) (σ := [some (.ref p.1), some (.ref p5), none]) (i := 1) (j := 2) (a := p5) (bs := six.map fun d => decide (c = d)) rfl (by show 2 < 3; decide) (.inl (.inl upd_same)) (by show 6 < 1000; decide) fun p6 h6 => ?_
  refine ⟨p6, six.map fun d => if decide (c = d) = true then (1 : Int) else 0, rfl, .inl (.inl upd_same), rfl, ?_⟩
  have hs : (six.map fun d => if decide (c = d) = true then (1 : Int) else 0).sum = 1 := by revert hcs; cases c <;> decide
  refine ⟨_, rfl, ?_⟩
  rw [if_neg (by rw [hs]; decide)]
  refine ⟨rfl, true, rfl, ?_⟩
  dsimp only
  rw [if_neg (by decide)]
  have h1 : (six.map fun d => decide (c = d))[pos6 c]? = some true := by revert hcs; cases c <;> decide
  have h2 : ∀ m, m < pos6 c → (six.map fun d => decide (c = d))[m]? = some false := by revert hcs; cases c <;> decide
  have h3 : (six.map nmX)[pos6 c]? = some (nmX c) := by revert hcs; cases c <;> decide
  refine ⟨(by show 6 ≤ sizeLine; decide), fun p7 h7 => ⟨_, rfl, ?_⟩⟩
  have sq : ∀ o : HO, SqL K (upd _ p7 o) p5 ((six.map fun d => decide (c = d)).map V.bl) := fun o => sq_upd (sq_upd (.inl (.inl upd_same)) h6) h7
  refine ⟨.inl ⟨rfl, _, sq _⟩, p5, _, .bl true, pos6 c, .bl true, rfl, rfl, sq _, rfl, ?_, by rw [List.getElem?_map, h1] <;> rfl, rfl, fun m z hm hz => ?_, ?_⟩
  · exact List.all_eq_true.mpr fun v hv => let ⟨b, _, e⟩ := List.mem_map.mp hv; by rw [← e] <;> rfl
  · rw [List.getElem?_map, h2 m hm] at hz
    cases hz
    rfl
  · refine ⟨p7, (six.map nmX).map V.str, (pos6 c : Nat), .str (nmX c), rfl, rfl, .inl (.inl upd_same), ?_, ?_⟩
    · revert hcs; cases c <;> decide
    · refine ⟨(by show 2 ≤ sizeLine; decide), fun p8 h8 => hq _ _ (((((((Pe.new i1).trans (.new i2)).trans (.new i3)).trans (.new h4)).trans (.new h5)).trans (.new h6)).trans (.new h7) |>.trans (.new h8)) ?_⟩
      refine .tup ((hide_in fun z => ?_).trans upd_same) (.cons (.str _) (.cons (.str _) .nil))
      exact (lv.le (((((((Pe.new i1).trans (.new i2)).trans (.new i3)).trans (.new h4)).trans (.new h5)).trans (.new h6)).trans (.new h7))).no h8 z
end
end K20
namespace K20
open PySem PySem.Spec PyProof.Rows L2 IL
section
variable {T : Gam} {ca : XC → Addr} {P : Program} {w : World} {K : PySem.W.Frag} {mg : Str → Option Value} {base : Heap}
abbrev s_law : Stmt := top 48
abbrev n_law : List Str := ["_law_script", "_law_k", "_law_more", "_law_looks", "_law_j", "_law_here", "_law_none_here", "_law_term", "_law_some", "_law_bad", "_law_both"]
theorem sc_law : FnScope n_law ["_law_script"] (defScope s_law) := ⟨rfl, rfl, rfl, by decide +kernel, rfl, by decide +kernel, by decide +kernel⟩
noncomputable def m_law : Sv := (mSeq (sFor (mRng (mCons (mB gMax2 (mCons (mC (.int 1)) (mCons (mB gMin2 (mCons (mC (.int 3)) (mCons (mB gLen (mCons (mVar 0) mNil)) mNil))) mNil))) mNil)) 1 (mSeq (sAsg 2 (mCallN 2 g_law_drawn (mCons (mCallN 2 g_law_cell (mCons (mVar 0) (mCons (mVar 1) mNil))) (mCons (mVar 1) mNil))))
    (mSeq (sNewOb 3)
    (mSeq (sFor (mRng (mCons (mC (.int 8)) mNil)) 4 (mSeq (sAsg 5 (mCallN 2 g_law_drawn (mCons (mVar 2) (mCons (mVar 4) mNil))))
    (mSeq (sAsg 6 (m2 gIx (fun _ => g_law_none []) (m2 gMod (mVar 5) (mB gLen (mCons (fun _ => g_law_none []) mNil)))))
    (mSeq (sAsg 7 (m2 gIx (mB gLst (mCons (mVar 6) (mCons (mB gTup (mCons (mC (.str "plus")) (mCons (mVar 6) (mCons (mB gTup (mCons (mC (.str "num")) (mCons (mC (.int 1)) mNil))) mNil)))) (mCons (mB gTup (mCons (mC (.str "when")) (mCons (mB gTup (mCons (mC (.str "num")) (mCons (mC (.int 0)) mNil))) (mCons (mB gTup (mCons (mC (.str "num")) (mCons (mC (.int 1)) mNil))) (mCons (mVar 6) mNil))))) mNil)))) (m2 gMod (m2 gDiv (mVar 5) (mC (.int 64))) (mC (.int 3)))))
    (mSeq (sOwnLV 8 (mCons (mTold six nmX (mCallN 1 g_need_term (mCons (mVar 7) mNil))) mNil))
    (mSeq (sAppV 8 (mTold six nmX (mMeth 3 g_Looks_define (mVar 3) (mCons (mC (.str "lb")) (mCons (mVar 7) mNil)))))
    (mSeq (sAppV 8 (mTold six nmX (mMeth 3 g_Looks_define (mVar 3) (mCons (mC (.str "la")) (mCons (mB gTup (mCons (mC (.str "num")) (mCons (mC (.int 2)) mNil))) mNil)))))
    (mSeq (sAppV 8 (mTold six nmX (mMeth 3 g_Looks_define (mVar 3) (mCons (mC (.str "lb")) (mCons (mB gTup (mCons (mC (.str "plus")) (mCons (mB gTup (mCons (mC (.str "look")) (mCons (mC (.str "la")) mNil))) (mCons (mB gTup (mCons (mC (.str "look")) (mCons (mC (.str "lc")) mNil))) mNil)))) mNil)))))
    (mSeq (sAppV 8 (mTold six nmX (mMeth 3 g_Looks_define (mVar 3) (mCons (mC (.str "lb")) (mCons (mB gTup (mCons (mC (.str "look")) (mCons (mC (.str "lb")) mNil))) mNil)))))
    (mSeq (sAppV 8 (mTold six nmX (mMeth 2 g_Looks_value (mVar 3) (mCons (mC (.str "lb")) mNil))))
    (mSeq (sAppV 8 (mTold six nmX (mMeth 2 g_Looks_readings (mVar 3) (mCons (mC (.str "lb")) mNil))))
    (sIf (mT (m2 gNe (mVar 8) (mB (gRepL 7) (mCons (mB gTup (mCons (mC (.str "refused")) (mCons (mC (.str "BadLook")) mNil))) mNil)))) (sRet (mC (.bool false))) mSkip))))))))))))
    (mSeq (sFor (mItems lstOf (mB gLst (mCons (mC (.str "A")) (mCons (mC (.str "")) (mCons (mC .none) (mCons (mC (.str "abcdefg")) (mCons (mB gTup (mCons (mC (.str "a")) mNil)) mNil))))))) 9 (mSeq (sOwnLV 8 (mCons (mTold six nmX (mMeth 3 g_Looks_define (mVar 3) (mCons (mVar 9) (mCons (mB gTup (mCons (mC (.str "num")) (mCons (mC (.int 1)) mNil))) mNil)))) mNil))
    (mSeq (sAppV 8 (mTold six nmX (mMeth 2 g_Looks_value (mVar 3) (mCons (mVar 9) mNil))))
    (mSeq (sAppV 8 (mTold six nmX (mMeth 2 g_Looks_readings (mVar 3) (mCons (mVar 9) mNil))))
    (sIf (mT (m2 gNe (mVar 8) (mB (gRepL 3) (mCons (mB gTup (mCons (mC (.str "refused")) (mCons (mC (.str "BadPath")) mNil))) mNil)))) (sRet (mC (.bool false))) mSkip)))))
    (mSeq (sIfValue 3 (mT (m2 (fun d e => if e matches .none then gNotN d e else none) (mCallN 1 g_need_term (mCons (mCallN 1 g_law_tower (mCons (mC (.int 7)) mNil)) mNil)) (mC .none))) (mT (m2 gNe (mMeth0 g_Looks_names (mVar 3)) (mB gLst (mCons (mC (.str "la")) mNil)))))
    (mSeq (sAsg 10 (mB gTup (mCons (mC (.str "when")) (mCons (mB gTup (mCons (mC (.str "look")) (mCons (mC (.str "lb")) mNil))) (mCons (mB gTup (mCons (mC (.str "look")) (mCons (mC (.str "la")) mNil))) (mCons (mB gTup (mCons (mC (.str "plus")) (mCons (mB gTup (mCons (mC (.str "look")) (mCons (mC (.str "lb")) mNil))) (mCons (mB gTup (mCons (mC (.str "at")) (mCons (mB gTup mNil) mNil))) mNil)))) mNil))))))
    (mSeq (sIf (mOr (mT (m2 gNe (mCallN 1 (g_looks_in 12) (mCons (mVar 10) mNil)) (mB gLst (mCons (mC (.str "la")) (mCons (mC (.str "lb")) mNil))))) (mOr (mT (m2 gNe (mCallN 1 (g_looks_in 12) (mCons (mB gTup (mCons (mC (.str "num")) (mCons (mC (.int 1)) mNil))) mNil)) (mB gLst mNil))) (mT (m2 gNe (mCallN 1 (g_looks_in 12) (mCons (mB gTup (mCons (mC (.str "sum")) (mCons (mB gTup (mCons (mC (.str "look")) mNil)) mNil))) mNil)) (mB gLst mNil))))) (sRet (mC (.bool false))) mSkip)
    (mSeq (sIf (mT (m2 gNe (mTold six nmX (mNewX (mDispT (((mB gTup mNil), (mC (.int 1))) :: [])))) (mB gTup (mCons (mC (.str "refused")) (mCons (mC (.str "BadState")) mNil))))) (sRet (mC (.bool false))) mSkip)
    (sIf (mT (m2 gNe (mTold six nmX (mMeth 2 g_Looks_show (mVar 3) (mCons (mB gLst mNil) mNil))) (mB gTup (mCons (mC (.str "refused")) (mCons (mC (.str "BadState")) mNil))))) (sRet (mC (.bool false))) mSkip))))))))))
    (sRet (mC (.bool true))))
noncomputable def g_law : List D → Res D := fun ds => outR (m_law (startE 11 ds))
theorem ok_law (G : Gl ca K w mg) {f : Addr} {oc kV doc pm ct : Value} {od an : Option Addr} {osl : Array (Option Value)} {c P0 : Addr} (lk : K.lookup f = some ⟨oc, od, .func (PySem.W.fnOf "law" "law" (defArgs s_law) (defBody s_law) (defScope s_law) .none kV doc pm an (.ref c) ct), osl⟩) (hcd : PySem.W.codeIn K (.ref c) "law" = true)
    (DT : Told six T ca nmX P w K mg base 1 "_law_told" "LookError" "_law_word" s_told n_told "_law_deed" "_law_e") (TB : LamX.TabB base mg c P0) (hin : (P0, ("law.<locals>.<lambda>" : Str)) ∈ T.tabs) (hone : ∀ p ∈ T.tabs, p.1 = P0 → p.2 = "law.<locals>.<lambda>")
    {C CK : Addr} (LF : LooksF K C) (LC : LooksC K C) {fi : Addr} {fdi : FuncData} (MI : Mk K C fi) (Fi : FnOk P w K mg base (L2N.CX P w) 5 fi fdi ["self", "state"] (spInit T C)) (FiX : FnOk P w K mg base (L2N.CX P w) 5 fi fdi ["self", "state"] (spInitX T ca K C)) (hbi : L2.Binds K fdi ["self", "state"] [])
    {fd_ : Addr} {fdd : FuncData} (MD : Meth K C "define" fd_) (Fd : FnOk P w K mg base (L2N.CX P w) 16 fd_ fdd ["self", "name", "term"] (spDef T K C)) (hbd : L2.Binds K fdd ["self", "name", "term"] []) (hmL : mg "Looks" = some (.ref C))
    {fv : Addr} {fdv : FuncData} (MV : Meth K C "value" fv) (Fv : FnOk P w K mg base (L2N.CX P w) 4 fv fdv ["self", "name"] (spValue T C CK)) (hbv : L2.Binds K fdv ["self", "name"] [])
    (F_law_drawn : FnD T ca P w K mg base 1 "_law_drawn" 2 g_law_drawn) (F_law_none : FnD T ca P w K mg base 2 "_law_none" 0 g_law_none) (F_need_term : FnD T ca P w K mg base 15 "need_term" 1 g_need_term) (M_define : FnM T ca P w K mg base 16 C "define" 3 g_Looks_define) (M_value : FnM T ca P w K mg base 3 C "value" 2 g_Looks_value) (M_readings : FnM T ca P w K mg base 3 C "readings" 2 g_Looks_readings) (F_law_tower : FnD T ca P w K mg base 1 "_law_tower" 1 g_law_tower) (M_names : FnM T ca P w K mg base 1 C "names" 1 g_Looks_names) (F_looks_in : FnD T ca P w K mg base 12 "looks_in" 1 (g_looks_in 12)) (M_show : FnM T ca P w K mg base 5 C "show" 2 g_Looks_show) (F_law_cell : FnD T ca P w K mg base 1 "_law_cell" 2 g_law_cell) :
    FnOk P w K mg base (L2N.CX P w) 23 f (PySem.W.fnOf "law" "law" (defArgs s_law) (defBody s_law) (defScope s_law) .none kV doc pm an (.ref c) ct) ["_law_script"] (SpD T ca K 1 g_law) := fn_okL lk hcd sc_law fun A outer s H E hr => by
  have hu := hu_at hr
  have tk : L2N.Takes (cxOf (L2N.CX P w) P w K mg base n_law "law" (defScope s_law) f (.ref c) A outer s H E) (fun c d _ H => E c d H) := L2N.takes_of rfl rfl rfl rfl
  unfold m_law
  exact (iss_cons (is_for (i := 1) (passes_of rfl) sc_law.nd (ii_rng1 G.b_range (ia_cons (ie_callB (call_max2 rfl) imp_max2 (by decide +kernel) G.b_max (ia_cons ie_int (ia_cons (ie_callB (call_min2 rfl) imp_min2 (by decide +kernel) G.b_min (ia_cons ie_int (ia_cons (ie_callB call_lenG imp_len (by decide +kernel) G.b_len (ia_cons (ie_var (i := 0)) ia_nil)) ia_nil))) ia_nil))) ia_nil) (h1 := (len_cons _ _ 0 len_nil))) (iss_cons (is_asg (i := 2) sc_law.nd (ie_call F_law_drawn hr (by decide) tk (ia_cons (ie_call F_law_cell hr (by decide) tk (ia_cons (ie_var (i := 0)) (ia_cons (ie_var (i := 1)) ia_nil))) (ia_cons (ie_var (i := 1)) ia_nil))))
    (iss_new2 (i := 3) LF MI Fi hbi MD Fd hbd hr (by decide) hmL sc_law.nd
    (iss_cons (is_for (i := 4) (passes_of rfl) sc_law.nd (ii_rng1 G.b_range (ia_cons ie_int ia_nil) (h1 := (len_cons _ _ 0 len_nil))) (iss_cons (is_asg (i := 5) sc_law.nd (ie_call F_law_drawn hr (by decide) tk (ia_cons (ie_var (i := 2)) (ia_cons (ie_var (i := 4)) ia_nil))))
    (iss_cons (is_asg (i := 6) sc_law.nd (ie_ix ix_seq imp_ix (ie_call0 F_law_none hr (by decide) (fun _ _ => trivial) tk ⟨_, fun _ _ _ _ => Iff.rfl⟩) (ie_op op_mod imp_mod (ie_var (i := 5)) (ie_callB call_lenG imp_len (by decide +kernel) G.b_len (ia_cons (ie_call0 F_law_none hr (by decide) (fun _ _ => trivial) tk ⟨_, fun _ _ _ _ => Iff.rfl⟩) ia_nil)))))
    (iss_cons (is_asg (i := 7) sc_law.nd (ie_ix ix_seq imp_ix (ie_lst (ia_cons (ie_var (i := 6)) (ia_cons (ie_tup (ia_cons ie_str (ia_cons (ie_var (i := 6)) (ia_cons (ie_tup (ia_cons ie_str (ia_cons ie_int ia_nil))) ia_nil)))) (ia_cons (ie_tup (ia_cons ie_str (ia_cons (ie_tup (ia_cons ie_str (ia_cons ie_int ia_nil))) (ia_cons (ie_tup (ia_cons ie_str (ia_cons ie_int ia_nil))) (ia_cons (ie_var (i := 6)) ia_nil))))) ia_nil)))) (ie_op op_mod imp_mod (ie_op op_fdivW imp_div (ie_var (i := 5)) ie_int) ie_int)))
    (iss_cons (is_ownLV (i := 8) sc_law.nd (ia_cons (ie_told (j := 20) DT TB rfl hin hone hr (by decide) (by show LamX.lamSB (defScope s_law) _ = true; decide +kernel) (by rfl) (fun _ _ _ _ _ => by rfl) (fun _ _ _ _ _ _ _ hr3 => (ie_call F_need_term hr3 (by decide) lamN_takes (ia_cons (ie_var (i := 7)) ia_nil))) rfl) ia_nil))
    (iss_cons (is_appV (i := 8) (ie_told (j := 20) DT TB rfl hin hone hr (by decide) (by show LamX.lamSB (defScope s_law) _ = true; decide +kernel) (by rfl) (fun _ _ _ _ _ => by rfl) (fun _ _ _ _ _ _ _ hr3 => (ie_meth LC M_define hr3 (by decide) lamN_takes (ie_var (i := 3)) (ia_cons ie_str (ia_cons (ie_var (i := 7)) ia_nil)))) rfl))
    (iss_cons (is_appV (i := 8) (ie_told (j := 20) DT TB rfl hin hone hr (by decide) (by show LamX.lamSB (defScope s_law) _ = true; decide +kernel) (by rfl) (fun _ _ _ _ _ => by rfl) (fun _ _ _ _ _ _ _ hr3 => (ie_meth LC M_define hr3 (by decide) lamN_takes (ie_var (i := 3)) (ia_cons ie_str (ia_cons (ie_tup (ia_cons ie_str (ia_cons ie_int ia_nil))) ia_nil)))) rfl))
    (iss_cons (is_appV (i := 8) (ie_told (j := 20) DT TB rfl hin hone hr (by decide) (by show LamX.lamSB (defScope s_law) _ = true; decide +kernel) (by rfl) (fun _ _ _ _ _ => by rfl) (fun _ _ _ _ _ _ _ hr3 => (ie_meth LC M_define hr3 (by decide) lamN_takes (ie_var (i := 3)) (ia_cons ie_str (ia_cons (ie_tup (ia_cons ie_str (ia_cons (ie_tup (ia_cons ie_str (ia_cons ie_str ia_nil))) (ia_cons (ie_tup (ia_cons ie_str (ia_cons ie_str ia_nil))) ia_nil)))) ia_nil)))) rfl))
    (iss_cons (is_appV (i := 8) (ie_told (j := 20) DT TB rfl hin hone hr (by decide) (by show LamX.lamSB (defScope s_law) _ = true; decide +kernel) (by rfl) (fun _ _ _ _ _ => by rfl) (fun _ _ _ _ _ _ _ hr3 => (ie_meth LC M_define hr3 (by decide) lamN_takes (ie_var (i := 3)) (ia_cons ie_str (ia_cons (ie_tup (ia_cons ie_str (ia_cons ie_str ia_nil))) ia_nil)))) rfl))
    (iss_cons (is_appV (i := 8) (ie_told (j := 20) DT TB rfl hin hone hr (by decide) (by show LamX.lamSB (defScope s_law) _ = true; decide +kernel) (by rfl) (fun _ _ _ _ _ => by rfl) (fun _ _ _ _ _ _ _ hr3 => (ie_meth LC M_value hr3 (by decide) lamN_takes (ie_var (i := 3)) (ia_cons ie_str ia_nil))) rfl))
    (iss_cons (is_appV (i := 8) (ie_told (j := 20) DT TB rfl hin hone hr (by decide) (by show LamX.lamSB (defScope s_law) _ = true; decide +kernel) (by rfl) (fun _ _ _ _ _ => by rfl) (fun _ _ _ _ _ _ _ hr3 => (ie_meth LC M_readings hr3 (by decide) lamN_takes (ie_var (i := 3)) (ia_cons ie_str ia_nil))) rfl))
    (iss_one (is_if (it_cmp (op_neP hu) imp_ne (ie_var (i := 8)) (ie_rep (ia_cons (ie_tup (ia_cons ie_str (ia_cons ie_str ia_nil))) ia_nil))) (iss_one (is_ret ie_bl)) iss_nil)))))))))))))
    (iss_cons (is_for (i := 9) (passes_of rfl) sc_law.nd (ii_list (ie_lst (ia_cons ie_str (ia_cons ie_str (ia_cons ie_non (ia_cons ie_str (ia_cons (ie_tup (ia_cons ie_str ia_nil)) ia_nil))))))) (iss_cons (is_ownLV (i := 8) sc_law.nd (ia_cons (ie_told (j := 20) DT TB rfl hin hone hr (by decide) (by show LamX.lamSB (defScope s_law) _ = true; decide +kernel) (by rfl) (fun _ _ _ _ _ => by rfl) (fun _ _ _ _ _ _ _ hr3 => (ie_meth LC M_define hr3 (by decide) lamN_takes (ie_var (i := 3)) (ia_cons (ie_var (i := 9)) (ia_cons (ie_tup (ia_cons ie_str (ia_cons ie_int ia_nil))) ia_nil)))) rfl) ia_nil))
    (iss_cons (is_appV (i := 8) (ie_told (j := 20) DT TB rfl hin hone hr (by decide) (by show LamX.lamSB (defScope s_law) _ = true; decide +kernel) (by rfl) (fun _ _ _ _ _ => by rfl) (fun _ _ _ _ _ _ _ hr3 => (ie_meth LC M_value hr3 (by decide) lamN_takes (ie_var (i := 3)) (ia_cons (ie_var (i := 9)) ia_nil))) rfl))
    (iss_cons (is_appV (i := 8) (ie_told (j := 20) DT TB rfl hin hone hr (by decide) (by show LamX.lamSB (defScope s_law) _ = true; decide +kernel) (by rfl) (fun _ _ _ _ _ => by rfl) (fun _ _ _ _ _ _ _ hr3 => (ie_meth LC M_readings hr3 (by decide) lamN_takes (ie_var (i := 3)) (ia_cons (ie_var (i := 9)) ia_nil))) rfl))
    (iss_one (is_if (it_cmp (op_neP hu) imp_ne (ie_var (i := 8)) (ie_rep (ia_cons (ie_tup (ia_cons ie_str (ia_cons ie_str ia_nil))) ia_nil))) (iss_one (is_ret ie_bl)) iss_nil))))))
    (iss_cons (is_ifValue (i := 3) (CK := CK) LF MV Fv hbv hr (by decide) (it_cmp op_notN imp_notN (ie_call F_need_term hr (by decide) tk (ia_cons (ie_call F_law_tower hr (by decide) tk (ia_cons ie_int ia_nil)) ia_nil)) ie_non) (it_cmp (op_neP hu) imp_ne (ie_meth0 LC M_names hr (by decide) tk (ie_var (i := 3))) (ie_lst (ia_cons ie_str ia_nil))))
    (iss_cons (is_asg (i := 10) sc_law.nd (ie_tup (ia_cons ie_str (ia_cons (ie_tup (ia_cons ie_str (ia_cons ie_str ia_nil))) (ia_cons (ie_tup (ia_cons ie_str (ia_cons ie_str ia_nil))) (ia_cons (ie_tup (ia_cons ie_str (ia_cons (ie_tup (ia_cons ie_str (ia_cons ie_str ia_nil))) (ia_cons (ie_tup (ia_cons ie_str (ia_cons (ie_tup ia_nil) ia_nil))) ia_nil)))) ia_nil))))))
    (iss_cons (is_if (IW.it (iw_or (it_cmp (op_neP hu) imp_ne (ie_call F_looks_in hr (by decide) tk (ia_cons (ie_var (i := 10)) ia_nil)) (ie_lst (ia_cons ie_str (ia_cons ie_str ia_nil)))) (iw_or (it_cmp (op_neP hu) imp_ne (ie_call F_looks_in hr (by decide) tk (ia_cons (ie_tup (ia_cons ie_str (ia_cons ie_int ia_nil))) ia_nil)) (ie_lst ia_nil)) (iw_or1 (it_cmp (op_neP hu) imp_ne (ie_call F_looks_in hr (by decide) tk (ia_cons (ie_tup (ia_cons ie_str (ia_cons (ie_tup (ia_cons ie_str ia_nil)) ia_nil))) ia_nil)) (ie_lst ia_nil)))))) (iss_one (is_ret ie_bl)) iss_nil)
    (iss_cons (is_if (it_cmp (op_neP hu) imp_ne (ie_told (j := 20) DT TB rfl hin hone hr (by decide) (by show LamX.lamSB (defScope s_law) _ = true; decide +kernel) (by rfl) (fun _ _ _ _ _ => by rfl) (fun _ _ _ _ _ _ _ hr3 => (ie_newX MI FiX hbi hr3 (by decide) hmL lamN_takes ⟨_, fun _ _ _ _ => Iff.rfl⟩ (ie_dispT (hu_at hr3) (ips_cons (ie_tup ia_nil) ie_int ips_nil)))) rfl) (ie_tup (ia_cons ie_str (ia_cons ie_str ia_nil)))) (iss_one (is_ret ie_bl)) iss_nil)
    (iss_one (is_if (it_cmp (op_neP hu) imp_ne (ie_told (j := 20) DT TB rfl hin hone hr (by decide) (by show LamX.lamSB (defScope s_law) _ = true; decide +kernel) (by rfl) (fun _ _ _ _ _ => by rfl) (fun _ _ _ _ _ _ _ hr3 => (ie_meth LC M_show hr3 (by decide) lamN_takes (ie_var (i := 3)) (ia_cons (ie_lst ia_nil) ia_nil))) rfl) (ie_tup (ia_cons ie_str (ia_cons ie_str ia_nil)))) (iss_one (is_ret ie_bl)) iss_nil)))))))))))
    (iss_one (is_ret ie_bl)))
end
end K20
namespace K20
open PySem IL
/-! ### plain: what is drawn -/
theorem drawn (c k : Int) : ∃ r : Int, 0 ≤ r ∧ g_law_drawn [.int c, .int k] = .ok (.int r) := by
  let r1 : Int := (c * 6364136223846793005 + (k + 1) * 1442695040888963407) % 340282366920938463463374607431768211507
  have b1 : 0 ≤ r1 ∧ r1 < 340282366920938463463374607431768211507 := ⟨Int.emod_nonneg _ (by decide), Int.emod_lt_of_pos _ (by decide)⟩
  let r2 : Int := r1 * r1 % 340282366920938463463374607431768211297
  have b2 : 0 ≤ r2 ∧ r2 < 340282366920938463463374607431768211297 := ⟨Int.emod_nonneg _ (by decide), Int.emod_lt_of_pos _ (by decide)⟩
  have b3 : 0 ≤ r2 % 18446744073709551557 ∧ r2 % 18446744073709551557 < 18446744073709551557 := ⟨Int.emod_nonneg _ (by decide), Int.emod_lt_of_pos _ (by decide)⟩
  have b4 : 0 ≤ r2 / 18446744073709551557 ∧ r2 / 18446744073709551557 < 2 ^ 128 := ⟨Int.ediv_nonneg b2.1 (by decide), by omega⟩
  let r3 : Int := (r2 % 18446744073709551557 + 1) * (r2 / 18446744073709551557 + 1) * r2
  have b5 : (r2 % 18446744073709551557 + 1) * (r2 / 18446744073709551557 + 1) ≤ 18446744073709551557 * 2 ^ 128 := Int.mul_le_mul (by omega) (by omega) (by omega) (by decide)
  have b6 : 0 ≤ (r2 % 18446744073709551557 + 1) * (r2 / 18446744073709551557 + 1) := Int.mul_nonneg (by omega) (by omega)
  refine ⟨r3 % 340282366920938463463374607431768211507, Int.emod_nonneg _ (by decide), ?_⟩
  have h1 : (sAsg 2 (m2 gMod (m2 gAdd (m2 gMul (mVar 0) (mC (.int 6364136223846793005))) (m2 gMul (m2 gAdd (mVar 1) (mC (.int 1))) (mC (.int 1442695040888963407)))) (mC (.int 340282366920938463463374607431768211507)))) [some (.val (.int c)), some (.val (.int k)), none] = .nx [some (.val (.int c)), some (.val (.int k)), some (.val (.int r1))] :=
    asg_of (m2_of (m2_of (m2_of (var_of rfl) rfl (gMul_of (mulOk_r (by decide) (by decide)))) (m2_of (m2_of (var_of rfl) rfl rfl) rfl (gMul_of (mulOk_r (by decide) (by decide)))) rfl) rfl (gMod_of (by decide)))
  have h2 : (sAsg 2 (m2 gMod (m2 gMul (mVar 2) (mVar 2)) (mC (.int 340282366920938463463374607431768211297)))) [some (.val (.int c)), some (.val (.int k)), some (.val (.int r1))] = .nx [some (.val (.int c)), some (.val (.int k)), some (.val (.int r2))] :=
    asg_of (m2_of (m2_of (var_of rfl) (var_of rfl) (gMul_of (mulOk_big (by omega) (by omega)))) rfl (gMod_of (by decide)))
  have h3 : (sAsg 2 (m2 gMul (m2 gMul (m2 gAdd (m2 gMod (mVar 2) (mC (.int 18446744073709551557))) (mC (.int 1))) (m2 gAdd (m2 gDiv (mVar 2) (mC (.int 18446744073709551557))) (mC (.int 1)))) (mVar 2))) [some (.val (.int c)), some (.val (.int k)), some (.val (.int r2))] = .nx [some (.val (.int c)), some (.val (.int k)), some (.val (.int r3))] :=
    asg_of (m2_of (m2_of (m2_of (m2_of (var_of rfl) rfl (gMod_of (by decide))) rfl rfl) (m2_of (m2_of (var_of rfl) rfl (gDiv_of (by decide) (by decide))) rfl rfl) (gMul_of (mulOk_l (by omega) (by omega)))) (var_of rfl) (gMul_of (mulOk_big (by omega) (by omega))))
  have h4 : (sRet (m2 gMod (mVar 2) (mC (.int 340282366920938463463374607431768211507)))) [some (.val (.int c)), some (.val (.int k)), some (.val (.int r3))] = .ret (.int (r3 % 340282366920938463463374607431768211507)) :=
    ret_of (m2_of (var_of rfl) rfl (gMod_of (by decide)))
  show outR (m_law_drawn [some (.val (.int c)), some (.val (.int k)), none]) = _
  unfold m_law_drawn
  rw [seq_nx h1, seq_nx h2, seq_nx h3, h4]
  rfl

def listOf : Res D → List D
  | .ok (.list ds) => ds
  | _ => []
def datOf : Res D → D
  | .ok d => d
  | _ => .none
def isL : Res D → Bool
  | .ok (.list _) => true
  | _ => false
def isOk : Res D → Bool
  | .ok _ => true
  | _ => false
def isNo : Res D → Bool
  | .ok .none => true
  | _ => false
def isF : Option D → Bool
  | some (.bool false) => true
  | _ => false
theorem isL_of {r : Res D} (h : isL r = true) : r = .ok (.list (listOf r)) := by
  match r, h with
  | .ok (.list ds), _ => rfl
theorem isOk_of {r : Res D} (h : isOk r = true) : r = .ok (datOf r) := by
  match r, h with
  | .ok d, _ => rfl
theorem isNo_of {r : Res D} (h : isNo r = true) : r = .ok .none := by
  match r, h with
  | .ok .none, _ => rfl
theorem isF_of {o : Option D} (h : isF o = true) : o = some (.bool false) := by
  match o, h with
  | some (.bool false), _ => rfl
theorem ix_mod {ds : List D} (h : 0 < ds.length) (z : Int) : ∃ d ∈ ds, gIx (.list ds) (.int (z % (ds.length : Int))) = some d := by
  have h1 : 0 ≤ z % (ds.length : Int) := Int.emod_nonneg _ (by omega)
  have h2 : z % (ds.length : Int) < ds.length := Int.emod_lt_of_pos _ (by omega)
  have hl : (z % (ds.length : Int)).toNat < ds.length := by omega
  refine ⟨ds[(z % (ds.length : Int)).toNat], List.getElem_mem hl, ?_⟩
  show L2.atI ds _ = _
  unfold L2.atI L2.ixN
  rw [if_pos h1, if_pos h2]
  exact List.getElem?_eq_getElem hl

theorem ownLV_of {i : Nat} {m : IL.Env → Res (List D)} {env : SEnv} {ds : List D} (h : m (vis env) = .ok ds) (hb : (flatTs ds && decide (big ds.length = true)) = true) : sOwnLV i m env = .nx (env.set i (some (.own (.list ds)))) := by unfold sOwnLV; rw [h]; exact if_pos hb
theorem appV_of {i : Nat} {m : Ev} {env : SEnv} {ds : List D} {d : D} (ho : Has env i (.own (.list ds))) (h : m (vis env) = .ok d) (hb : (flatT d && decide (big ds.length = true)) = true) : sAppV i m env = .nx (env.set i (some (.own (.list (ds ++ [d]))))) := by
  unfold sAppV
  rw [ho]
  dsimp only
  rw [h]
  exact if_pos hb
theorem meth_of {n : Nat} {g : List D → Res D} {o : Ev} {a : IL.Env → Res (List D)} {E : IL.Env} {d : D} {ds : List D} (h : o E = .ok d) (hd : isOb d = true) (h' : a E = .ok ds) (hl : ds.length + 1 = n) : mMeth n g o a E = g (d :: ds) := by
  unfold mMeth
  rw [h]
  dsimp only [Res.bind]
  rw [if_pos hd, h']
  exact if_pos hl
theorem meth0_of {g : List D → Res D} {o : Ev} {E : IL.Env} {d : D} (h : o E = .ok d) (hd : isOb d = true) : mMeth0 g o E = g [d] := by
  unfold mMeth0
  rw [h]
  exact if_pos hd
def noneL : List D := listOf (g_law_none [])
theorem none_ok : g_law_none [] = .ok (.list noneL) := isL_of (by decide +kernel)
theorem none_len : 0 < noneL.length := by decide +kernel
def terms (d : D) : List D := [d, .tuple [.str "plus", d, .tuple [.str "num", .int 1]], .tuple [.str "when", .tuple [.str "num", .int 0], .tuple [.str "num", .int 1], d]]
abbrev B1 : D := bookD true
abbrev B0 : D := bookD false
theorem c1 : (noneL.all fun d => (terms d).all fun t => isX .look (g_need_term [t])) = true := by decide +kernel
theorem c2 : (noneL.all fun d => (terms d).all fun t => isX .look (g_Looks_define [B1, .str "lb", t])) = true := by decide +kernel
theorem c3 : isX .look (g_Looks_define [B1, .str "la", .tuple [.str "num", .int 2]]) = true := by decide +kernel
theorem c4 : isX .look (g_Looks_define [B1, .str "lb", .tuple [.str "plus", .tuple [.str "look", .str "la"], .tuple [.str "look", .str "lc"]]]) = true := by decide +kernel
theorem c5 : isX .look (g_Looks_define [B1, .str "lb", .tuple [.str "look", .str "lb"]]) = true := by decide +kernel
theorem c6 : isX .look (g_Looks_value [B1, .str "lb"]) = true := by decide +kernel
theorem c7 : isX .look (g_Looks_readings [B1, .str "lb"]) = true := by decide +kernel
def bads : List D := [.str "A", .str "", .none, .str "abcdefg", .tuple [.str "a"]]
theorem d1 : (bads.all fun v => isX .path (g_Looks_define [B1, v, .tuple [.str "num", .int 1]])) = true := by decide +kernel
theorem d2 : (bads.all fun v => isX .path (g_Looks_value [B1, v])) = true := by decide +kernel
theorem d3 : (bads.all fun v => isX .path (g_Looks_readings [B1, v])) = true := by decide +kernel
def refL : D := refused nmX .look
def refP : D := refused nmX .path
def refS : D := refused nmX .state
def r7M : Ev := (mB (gRepL 7) (mCons (mB gTup (mCons (mC (.str "refused")) (mCons (mC (.str "BadLook")) mNil))) mNil))
def r3M : Ev := (mB (gRepL 3) (mCons (mB gTup (mCons (mC (.str "refused")) (mCons (mC (.str "BadPath")) mNil))) mNil))
def r1M : Ev := (mB gTup (mCons (mC (.str "refused")) (mCons (mC (.str "BadState")) mNil)))
theorem r7_ok (E : IL.Env) : r7M E = .ok (datOf (r7M [])) := (show r7M E = r7M [] from rfl).trans (isOk_of (by decide +kernel))
theorem r3_ok (E : IL.Env) : r3M E = .ok (datOf (r3M [])) := (show r3M E = r3M [] from rfl).trans (isOk_of (by decide +kernel))
theorem r1_ok (E : IL.Env) : r1M E = .ok (datOf (r1M [])) := (show r1M E = r1M [] from rfl).trans (isOk_of (by decide +kernel))
theorem n7 : gNe (.list [refL, refL, refL, refL, refL, refL, refL]) (datOf (r7M [])) = some (.bool false) := isF_of (by decide +kernel)
theorem n3 : gNe (.list [refP, refP, refP]) (datOf (r3M [])) = some (.bool false) := isF_of (by decide +kernel)
theorem n1 : gNe refS (datOf (r1M [])) = some (.bool false) := isF_of (by decide +kernel)
/-! ### the law's text, cut -/
def b0 : Sv := (sAsg 5 (mCallN 2 g_law_drawn (mCons (mVar 2) (mCons (mVar 4) mNil))))
def b1 : Sv := (sAsg 6 (m2 gIx (fun _ => g_law_none []) (m2 gMod (mVar 5) (mB gLen (mCons (fun _ => g_law_none []) mNil)))))
def termsM : Ev := (mB gLst (mCons (mVar 6) (mCons (mB gTup (mCons (mC (.str "plus")) (mCons (mVar 6) (mCons (mB gTup (mCons (mC (.str "num")) (mCons (mC (.int 1)) mNil))) mNil)))) (mCons (mB gTup (mCons (mC (.str "when")) (mCons (mB gTup (mCons (mC (.str "num")) (mCons (mC (.int 0)) mNil))) (mCons (mB gTup (mCons (mC (.str "num")) (mCons (mC (.int 1)) mNil))) (mCons (mVar 6) mNil))))) mNil))))
def b2 : Sv := (sAsg 7 (m2 gIx termsM (m2 gMod (m2 gDiv (mVar 5) (mC (.int 64))) (mC (.int 3)))))
def b3 : Sv := (sOwnLV 8 (mCons (mTold six nmX (mCallN 1 g_need_term (mCons (mVar 7) mNil))) mNil))
def b4 : Sv := (sAppV 8 (mTold six nmX (mMeth 3 g_Looks_define (mVar 3) (mCons (mC (.str "lb")) (mCons (mVar 7) mNil)))))
def b5 : Sv := (sAppV 8 (mTold six nmX (mMeth 3 g_Looks_define (mVar 3) (mCons (mC (.str "la")) (mCons (mB gTup (mCons (mC (.str "num")) (mCons (mC (.int 2)) mNil))) mNil)))))
def b6 : Sv := (sAppV 8 (mTold six nmX (mMeth 3 g_Looks_define (mVar 3) (mCons (mC (.str "lb")) (mCons (mB gTup (mCons (mC (.str "plus")) (mCons (mB gTup (mCons (mC (.str "look")) (mCons (mC (.str "la")) mNil))) (mCons (mB gTup (mCons (mC (.str "look")) (mCons (mC (.str "lc")) mNil))) mNil)))) mNil)))))
def b7 : Sv := (sAppV 8 (mTold six nmX (mMeth 3 g_Looks_define (mVar 3) (mCons (mC (.str "lb")) (mCons (mB gTup (mCons (mC (.str "look")) (mCons (mC (.str "lb")) mNil))) mNil)))))
def b8 : Sv := (sAppV 8 (mTold six nmX (mMeth 2 g_Looks_value (mVar 3) (mCons (mC (.str "lb")) mNil))))
def b9 : Sv := (sAppV 8 (mTold six nmX (mMeth 2 g_Looks_readings (mVar 3) (mCons (mC (.str "lb")) mNil))))
def b10 : Sv := (sIf (mT (m2 gNe (mVar 8) r7M)) (sRet (mC (.bool false))) mSkip)
def body : Sv := mSeq b0 (mSeq b1 (mSeq b2 (mSeq b3 (mSeq b4 (mSeq b5 (mSeq b6 (mSeq b7 (mSeq b8 (mSeq b9 b10)))))))))
def e0 : Sv := (sOwnLV 8 (mCons (mTold six nmX (mMeth 3 g_Looks_define (mVar 3) (mCons (mVar 9) (mCons (mB gTup (mCons (mC (.str "num")) (mCons (mC (.int 1)) mNil))) mNil)))) mNil))
def e1 : Sv := (sAppV 8 (mTold six nmX (mMeth 2 g_Looks_value (mVar 3) (mCons (mVar 9) mNil))))
def e2 : Sv := (sAppV 8 (mTold six nmX (mMeth 2 g_Looks_readings (mVar 3) (mCons (mVar 9) mNil))))
def e3 : Sv := (sIf (mT (m2 gNe (mVar 8) r3M)) (sRet (mC (.bool false))) mSkip)
def body2 : Sv := mSeq e0 (mSeq e1 (mSeq e2 e3))
def badsM : IL.Env → Res (List D) := (mItems lstOf (mB gLst (mCons (mC (.str "A")) (mCons (mC (.str "")) (mCons (mC .none) (mCons (mC (.str "abcdefg")) (mCons (mB gTup (mCons (mC (.str "a")) mNil)) mNil)))))))
def isLs : List D → Res (List D) → Bool := fun xs r => match r with
  | .ok ys => PyData.eqv (.list xs) (.list ys)
  | _ => false
theorem bads_ok (E : IL.Env) : badsM E = .ok bads := rfl
def a0 : Sv := (sAsg 2 (mCallN 2 g_law_drawn (mCons (mCallN 2 g_law_cell (mCons (mVar 0) (mCons (mVar 1) mNil))) (mCons (mVar 1) mNil))))
def a1 : Sv := sFor (mRng (mCons (mC (.int 8)) mNil)) 4 body
def a2 : Sv := sFor badsM 9 body2
def tA : IL.Env → Res Bool := (mT (m2 (fun d e => if e matches .none then gNotN d e else none) (mCallN 1 g_need_term (mCons (mCallN 1 g_law_tower (mCons (mC (.int 7)) mNil)) mNil)) (mC .none)))
def tB : IL.Env → Res Bool := (mT (m2 gNe (mMeth0 g_Looks_names (mVar 3)) (mB gLst (mCons (mC (.str "la")) mNil))))
noncomputable def a3 : Sv := sIfValue 3 tA tB
def bothM : Ev := (mB gTup (mCons (mC (.str "when")) (mCons (mB gTup (mCons (mC (.str "look")) (mCons (mC (.str "lb")) mNil))) (mCons (mB gTup (mCons (mC (.str "look")) (mCons (mC (.str "la")) mNil))) (mCons (mB gTup (mCons (mC (.str "plus")) (mCons (mB gTup (mCons (mC (.str "look")) (mCons (mC (.str "lb")) mNil))) (mCons (mB gTup (mCons (mC (.str "at")) (mCons (mB gTup mNil) mNil))) mNil)))) mNil)))))
def a4 : Sv := (sAsg 10 bothM)
def t5 : IL.Env → Res Bool := (mT (m2 gNe (mCallN 1 (g_looks_in 12) (mCons (mVar 10) mNil)) (mB gLst (mCons (mC (.str "la")) (mCons (mC (.str "lb")) mNil)))))
def t6 : IL.Env → Res Bool := (mT (m2 gNe (mCallN 1 (g_looks_in 12) (mCons (mB gTup (mCons (mC (.str "num")) (mCons (mC (.int 1)) mNil))) mNil)) (mB gLst mNil)))
def t7 : IL.Env → Res Bool := (mT (m2 gNe (mCallN 1 (g_looks_in 12) (mCons (mB gTup (mCons (mC (.str "sum")) (mCons (mB gTup (mCons (mC (.str "look")) mNil)) mNil))) mNil)) (mB gLst mNil)))
def a5 : Sv := (sIf (mOr t5 (mOr t6 t7)) (sRet (mC (.bool false))) mSkip)
def newM : Ev := (mNewX (mDispT (((mB gTup mNil), (mC (.int 1))) :: [])))
def a6 : Sv := (sIf (mT (m2 gNe (mTold six nmX newM) r1M)) (sRet (mC (.bool false))) mSkip)
def a7 : Sv := (sIf (mT (m2 gNe (mTold six nmX (mMeth 2 g_Looks_show (mVar 3) (mCons (mB gLst mNil) mNil))) r1M)) (sRet (mC (.bool false))) mSkip)
noncomputable def turn : Sv := mSeq a0 (mSeq (sNewOb 3) (mSeq a1 (mSeq a2 (mSeq a3 (mSeq a4 (mSeq a5 (mSeq a6 a7)))))))
theorem m_law_eq : m_law = mSeq (sFor (mRng (mCons (mB gMax2 (mCons (mC (.int 1)) (mCons (mB gMin2 (mCons (mC (.int 3)) (mCons (mB gLen (mCons (mVar 0) mNil)) mNil))) mNil))) mNil)) 1 turn) (sRet (mC (.bool true))) := rfl
/-- what a turn keeps -/
structure Kp (s : D) (env : SEnv) : Prop where
  len : env.length = 11
  scr : Has env 0 (.val s)
  sole : Sole env 3
theorem Sole.val {env : SEnv} {d : D} (h : Sole env 3) (i : Nat) : Sole (env.set i (some (.val d))) 3 := fun j e hj he => by
  rcases set_at he with ⟨_, _, q⟩ | ⟨_, q⟩
  · cases q
  · exact h j e hj q
theorem Kp.val {s d : D} {env : SEnv} (h : Kp s env) (i : Nat) (hi : i ≠ 0) : Kp s (env.set i (some (.val d))) := ⟨by rw [List.length_set]; exact h.len, h.scr.ne hi, h.sole.val i⟩
theorem Kp.lst {s : D} {ds : List D} {env : SEnv} (h : Kp s env) : Kp s (env.set 8 (some (.own (.list ds)))) := ⟨by rw [List.length_set]; exact h.len, h.scr.ne (by decide), fun j e hj he => by
  rcases set_at he with ⟨_, _, q⟩ | ⟨_, q⟩
  · cases q; rfl
  · exact h.sole j e hj q⟩
theorem Kp.bk {s d : D} {env : SEnv} (h : Kp s env) : Kp s (env.set 3 (some (.own d))) := ⟨by rw [List.length_set]; exact h.len, h.scr.ne (by decide), fun j e hj he => by
  rcases set_at he with ⟨z, _, q⟩ | ⟨_, q⟩
  · exact absurd z hj
  · exact h.sole j e hj q⟩
theorem isObB (b : Bool) : isOb (bookD b) = true := rfl
theorem termsM_ok {E : IL.Env} {d : D} (h : E[6]? = some (some d)) : termsM E = .ok (.list (terms d)) := by
  refine mB_of (ds := terms d) (cons_of (var_of h) (cons_of (mB_of (cons_of rfl (cons_of (var_of h) (cons_of rfl rfl))) rfl) (cons_of (mB_of (cons_of rfl (cons_of rfl (cons_of rfl (cons_of (var_of h) rfl)))) rfl) rfl))) rfl
theorem body_ok {s : D} {more : Int} {j : Int} {env : SEnv} (k : Kp s env) (h2 : Has env 2 (.val (.int more))) (h3 : Has env 3 (.own B1)) (h4 : Has env 4 (.val (.int j))) : ∃ e, body env = .nx e ∧ Kp s e ∧ Has e 2 (.val (.int more)) ∧ Has e 3 (.own B1) := by
  obtain ⟨here, _, hd⟩ := drawn more j
  obtain ⟨nn, hnn, enn⟩ := ix_mod none_len here
  obtain ⟨tt, htt, ett⟩ := ix_mod (ds := terms nn) (by show 0 < 3; decide) (here / 64)
  have x1 := isX_of (List.all_eq_true.mp (List.all_eq_true.mp c1 nn hnn) tt htt)
  have x2 := isX_of (List.all_eq_true.mp (List.all_eq_true.mp c2 nn hnn) tt htt)
  have x3 := isX_of c3
  have x4 := isX_of c4
  have x5 := isX_of c5
  have x6 := isX_of c6
  have x7 := isX_of c7
  have l := k.len
  let f0 := env.set 5 (some (.val (.int here)))
  have s0 : b0 env = .nx f0 := asg_of ((call2 (var_of (hid_of h2)) (var_of (hid_of h4))).trans hd)
  have k0 : Kp s f0 := k.val 5 (by decide)
  have g5 : Has f0 5 (.val (.int here)) := has_set (by omega)
  let f1 := f0.set 6 (some (.val nn))
  have s1 : b1 f0 = .nx f1 := asg_of (m2_of none_ok (m2_of (var_of (hid_of g5)) (mB_of (cons_of none_ok rfl) rfl) (gMod_of (by have := none_len; omega))) enn)
  have k1 : Kp s f1 := k0.val 6 (by decide)
  have g5' : Has f1 5 (.val (.int here)) := g5.ne (by decide)
  have g6 : Has f1 6 (.val nn) := has_set (by rw [k0.len]; decide)
  let f2 := f1.set 7 (some (.val tt))
  have s2 : b2 f1 = .nx f2 := asg_of (m2_of (termsM_ok (hid_of g6)) (m2_of (m2_of (var_of (hid_of g5')) rfl (gDiv_of (by decide) (by decide))) rfl (gMod_of (by decide))) ett)
  have k2 : Kp s f2 := k1.val 7 (by decide)
  have l2 := k2.len
  have q2 : Has f2 2 (.val (.int more)) := ((h2.ne (by decide)).ne (by decide)).ne (by decide)
  have q3 : Has f2 3 (.own B1) := ((h3.ne (by decide)).ne (by decide)).ne (by decide)
  have q7 : Has f2 7 (.val tt) := has_set (by rw [k1.len]; decide)
  have keep : ∀ ds : D, Has (f2.set 8 (some (.own ds))) 3 (.own B1) ∧ Has (f2.set 8 (some (.own ds))) 7 (.val tt) ∧ Has (f2.set 8 (some (.own ds))) 8 (.own ds) := fun ds => ⟨q3.ne (by decide), q7.ne (by decide), has_set (by omega)⟩
  have s3 : b3 f2 = .nx (f2.set 8 (some (.own (.list [refL])))) := ownLV_of (cons_of (told_exc ((call1 (var_of (vis_of q7))).trans x1) (by decide)) rfl) (by decide +kernel)
  have ap : ∀ (m : Ev) (ds : List D), (∀ E : IL.Env, E[3]? = some (some B1) → E[7]? = some (some tt) → m E = .exc .look) → big ds.length = true → sAppV 8 (mTold six nmX m) (f2.set 8 (some (.own (.list ds)))) = .nx (f2.set 8 (some (.own (.list (ds ++ [refL]))))) := fun m ds hm hb => by
    obtain ⟨w3, w7, w8⟩ := keep (.list ds)
    rw [appV_of w8 (told_exc (hm _ (vis_own w3) (vis_of w7)) (by decide)) (by rw [decide_eq_true hb]; decide +kernel), List.set_set]
    rfl
  have s4 : b4 (f2.set 8 (some (.own (.list [refL])))) = .nx (f2.set 8 (some (.own (.list [refL, refL])))) := ap _ _ (fun E w3 w7 => (meth_of (var_of w3) (isObB _) (cons_of rfl (cons_of (var_of w7) rfl)) rfl).trans x2) (by decide)
  have s5 : b5 (f2.set 8 (some (.own (.list [refL, refL])))) = .nx (f2.set 8 (some (.own (.list [refL, refL, refL])))) := ap _ _ (fun E w3 w7 => (meth_of (var_of w3) (isObB _) rfl rfl).trans x3) (by decide)
  have s6 : b6 (f2.set 8 (some (.own (.list [refL, refL, refL])))) = .nx (f2.set 8 (some (.own (.list [refL, refL, refL, refL])))) := ap _ _ (fun E w3 w7 => (meth_of (var_of w3) (isObB _) rfl rfl).trans x4) (by decide)
  have s7 : b7 (f2.set 8 (some (.own (.list [refL, refL, refL, refL])))) = .nx (f2.set 8 (some (.own (.list [refL, refL, refL, refL, refL])))) := ap _ _ (fun E w3 w7 => (meth_of (var_of w3) (isObB _) rfl rfl).trans x5) (by decide)
  have s8 : b8 (f2.set 8 (some (.own (.list [refL, refL, refL, refL, refL])))) = .nx (f2.set 8 (some (.own (.list [refL, refL, refL, refL, refL, refL])))) := ap _ _ (fun E w3 w7 => (meth_of (var_of w3) (isObB _) rfl rfl).trans x6) (by decide)
  have s9 : b9 (f2.set 8 (some (.own (.list [refL, refL, refL, refL, refL, refL])))) = .nx (f2.set 8 (some (.own (.list [refL, refL, refL, refL, refL, refL, refL])))) := ap _ _ (fun E w3 w7 => (meth_of (var_of w3) (isObB _) rfl rfl).trans x7) (by decide)
  have s10 : b10 (f2.set 8 (some (.own (.list [refL, refL, refL, refL, refL, refL, refL])))) = .nx (f2.set 8 (some (.own (.list [refL, refL, refL, refL, refL, refL, refL])))) := (if_of (x := false) (mT_of (m2_of (var_of (vis_own (keep _).2.2)) (r7_ok _) n7))).trans rfl
  refine ⟨f2.set 8 (some (.own (.list [refL, refL, refL, refL, refL, refL, refL]))), ?_, k2.lst, q2.ne (by decide), q3.ne (by decide)⟩
  unfold body
  rw [seq_nx s0, seq_nx s1, seq_nx s2, seq_nx s3, seq_nx s4, seq_nx s5, seq_nx s6, seq_nx s7, seq_nx s8, seq_nx s9, s10]
theorem body2_ok {s : D} {v : D} (hv : v ∈ bads) {env : SEnv} (k : Kp s env) (h3 : Has env 3 (.own B1)) (h9 : Has env 9 (.val v)) : ∃ e, body2 env = .nx e ∧ Kp s e ∧ Has e 3 (.own B1) := by
  have x1 := isX_of (List.all_eq_true.mp d1 v hv)
  have x2 := isX_of (List.all_eq_true.mp d2 v hv)
  have x3 := isX_of (List.all_eq_true.mp d3 v hv)
  have l := k.len
  have keep : ∀ ds : D, Has (env.set 8 (some (.own ds))) 3 (.own B1) ∧ Has (env.set 8 (some (.own ds))) 9 (.val v) ∧ Has (env.set 8 (some (.own ds))) 8 (.own ds) := fun ds => ⟨h3.ne (by decide), h9.ne (by decide), has_set (by omega)⟩
  have s0 : e0 env = .nx (env.set 8 (some (.own (.list [refP])))) := ownLV_of (cons_of (told_exc ((meth_of (var_of (vis_own h3)) (isObB _) (cons_of (var_of (vis_of h9)) rfl) rfl).trans x1) (by decide)) rfl) (by decide +kernel)
  have ap : ∀ (m : Ev) (ds : List D), (∀ E : IL.Env, E[3]? = some (some B1) → E[9]? = some (some v) → m E = .exc .path) → big ds.length = true → sAppV 8 (mTold six nmX m) (env.set 8 (some (.own (.list ds)))) = .nx (env.set 8 (some (.own (.list (ds ++ [refP]))))) := fun m ds hm hb => by
    obtain ⟨w3, w7, w8⟩ := keep (.list ds)
    rw [appV_of w8 (told_exc (hm _ (vis_own w3) (vis_of w7)) (by decide)) (by rw [decide_eq_true hb]; decide +kernel), List.set_set]
    rfl
  have s1 : e1 (env.set 8 (some (.own (.list [refP])))) = .nx (env.set 8 (some (.own (.list [refP, refP])))) := ap _ _ (fun E w3 w9 => (meth_of (var_of w3) (isObB _) (cons_of (var_of w9) rfl) rfl).trans x2) (by decide)
  have s2 : e2 (env.set 8 (some (.own (.list [refP, refP])))) = .nx (env.set 8 (some (.own (.list [refP, refP, refP])))) := ap _ _ (fun E w3 w9 => (meth_of (var_of w3) (isObB _) (cons_of (var_of w9) rfl) rfl).trans x3) (by decide)
  have s3 : e3 (env.set 8 (some (.own (.list [refP, refP, refP])))) = .nx (env.set 8 (some (.own (.list [refP, refP, refP])))) := (if_of (x := false) (mT_of (m2_of (var_of (vis_own (keep _).2.2)) (r3_ok _) n3))).trans rfl
  refine ⟨env.set 8 (some (.own (.list [refP, refP, refP]))), ?_, k.lst, h3.ne (by decide)⟩
  unfold body2
  rw [seq_nx s0, seq_nx s1, seq_nx s2, s3]
theorem plain_ints : ∀ ns : List Int, PyData.plainAll (ns.map PyData.int) = true
  | [] => rfl
  | n :: ns => by
    rw [List.map_cons, PyData.plainAll, plain_ints ns]
    rfl
theorem eq_nil (ns : List Int) : gEq (.list (ns.map PyData.int)) (.list []) = some (.bool ns.isEmpty) := by
  have h1 : (PyData.list (ns.map PyData.int)).plain = true := by rw [PyData.plain]; exact plain_ints ns
  have h2 : (PyData.list []).plain = true := by decide +kernel
  have h3 : decide ((PyData.list []).depth ≤ 60) = true := by decide +kernel
  unfold gEq gEqB
  rw [h1, h2, h3, Bool.or_true]
  cases ns <;> rfl
theorem cell (ns : List Int) (hlen : ns.length ≤ 63) (k : Nat) : ∃ c : Int, g_law_cell [.list (ns.map PyData.int), .int k] = .ok (.int c) := by
  let s : D := .list (ns.map PyData.int)
  have t : (mT (m2 gEq (mVar 0) (mB gLst mNil))) (vis [some (.val s), some (.val (.int k))]) = .ok ns.isEmpty := mT_of (m2_of (var_of rfl) rfl (eq_nil ns))
  by_cases hn : ns = []
  · have h1 : (sIf (mT (m2 gEq (mVar 0) (mB gLst mNil))) (sRet (m2 gMul (mVar 1) (mC (.int 7919)))) mSkip) [some (.val s), some (.val (.int k))] = .ret (.int (k * 7919)) := by
      rw [if_of t, hn]
      exact ret_of (m2_of (var_of rfl) rfl (gMul_of (mulOk_r (by decide) (by decide))))
    refine ⟨k * 7919, ?_⟩
    show outR (m_law_cell [some (.val s), some (.val (.int k))]) = _
    unfold m_law_cell
    rw [seq_ret h1]
    rfl
  · have h0 : ns.isEmpty = false := by cases ns with
      | nil => exact absurd rfl hn
      | cons a r => rfl
    have hl : 0 < (ns.map PyData.int).length := by
      rw [List.length_map]
      exact List.length_pos_iff.mpr hn
    have h1 : (sIf (mT (m2 gEq (mVar 0) (mB gLst mNil))) (sRet (m2 gMul (mVar 1) (mC (.int 7919)))) mSkip) [some (.val s), some (.val (.int k))] = .nx [some (.val s), some (.val (.int k))] := by
      rw [if_of t, h0]
      rfl
    obtain ⟨d, hd, ed⟩ := ix_mod hl k
    obtain ⟨z, _, rfl⟩ := List.mem_map.mp hd
    have hB : ((ns.map PyData.int).length : Int).natAbs < 2 ^ 400 := by
      rw [List.length_map]
      have : (64 : Nat) < 2 ^ 400 := by decide
      omega
    have hL : mB gLen (mCons (mVar 0) mNil) [some s, some (.int k)] = .ok (.int (ns.map PyData.int).length) := mB_of (cons_of (var_of rfl) rfl) rfl
    have h2 : (sRet (m2 gAdd (m2 gIx (mVar 0) (m2 gMod (mVar 1) (mB gLen (mCons (mVar 0) mNil)))) (m2 gMul (m2 gDiv (mVar 1) (mB gLen (mCons (mVar 0) mNil))) (mC (.int 104729))))) [some (.val s), some (.val (.int k))] = .ret (.int (z + k / ((ns.map PyData.int).length : Int) * 104729)) := by
      refine ret_of (m2_of (m2_of (var_of rfl) (m2_of (var_of rfl) hL (gMod_of (by omega))) ed) (m2_of (m2_of (var_of rfl) hL (gDiv_of (by omega) hB)) rfl (gMul_of (mulOk_r (by decide) (by decide)))) rfl)
    refine ⟨z + k / ((ns.map PyData.int).length : Int) * 104729, ?_⟩
    show outR (m_law_cell [some (.val s), some (.val (.int k))]) = _
    unfold m_law_cell
    rw [seq_nx h1, h2]
    rfl

def isFb : Res Bool → Bool
  | .ok false => true
  | _ => false
theorem isFb_of {r : Res Bool} (h : isFb r = true) : r = .ok false := by
  match r, h with
  | .ok false, _ => rfl
theorem or_of {a b : IL.Env → Res Bool} {E : IL.Env} {x : Bool} (h : a E = .ok false) (h' : b E = .ok x) : mOr a b E = .ok x := by
  unfold mOr
  rw [h]
  exact h'

theorem tA_ok (E : IL.Env) : tA E = .ok false := (show tA E = tA [] from rfl).trans (isFb_of (by decide +kernel))
theorem tB0 : tB [none, none, none, some B1] = .ok false := isFb_of (by decide +kernel)
theorem tB_ok {E : IL.Env} (h : E[3]? = some (some B1)) : tB E = .ok false := by
  have e : tB E = tB [none, none, none, some B1] := by
    unfold tB mT m2
    rw [meth0_of (var_of h) (isObB _), meth0_of (E := [none, none, none, some B1]) (var_of rfl) (isObB _)]
    rfl
  rw [e, tB0]
def both : D := datOf (bothM [])
theorem both_ok (E : IL.Env) : bothM E = .ok both := (show bothM E = bothM [] from rfl).trans (isOk_of (by decide +kernel))
def t5c : IL.Env → Res Bool := (mT (m2 gNe (fun _ => g_looks_in 12 [both]) (mB gLst (mCons (mC (.str "la")) (mCons (mC (.str "lb")) mNil)))))
theorem t5c_ok (E : IL.Env) : t5c E = .ok false := (show t5c E = t5c [] from rfl).trans (isFb_of (by decide +kernel))
theorem t5_ok {E : IL.Env} (h : E[10]? = some (some both)) : t5 E = .ok false := by
  have e : t5 E = t5c E := by
    unfold t5 t5c mT m2
    rw [call1 (var_of h)]
  rw [e, t5c_ok]
theorem t6_ok (E : IL.Env) : t6 E = .ok false := (show t6 E = t6 [] from rfl).trans (isFb_of (by decide +kernel))
theorem t7_ok (E : IL.Env) : t7 E = .ok false := (show t7 E = t7 [] from rfl).trans (isFb_of (by decide +kernel))
theorem new_ok (E : IL.Env) : newM E = .exc .state := (show newM E = newM [] from rfl).trans (isX_of (by decide +kernel))
theorem show_ok : isX .state (g_Looks_show [B0, .list []]) = true := by decide +kernel
theorem a6_ok (env : SEnv) : a6 env = .nx env := (if_of (x := false) (mT_of (m2_of (told_exc (new_ok _) (by decide)) (r1_ok _) n1))).trans rfl
theorem a7_ok {env : SEnv} (h : Has env 3 (.own B0)) : a7 env = .nx env :=
  (if_of (x := false) (mT_of (m2_of (told_exc ((meth_of (var_of (vis_own h)) (isObB _) rfl rfl).trans (isX_of show_ok)) (by decide)) (r1_ok _) n1))).trans rfl
theorem a5_ok {env : SEnv} (h : Has env 10 (.val both)) : a5 env = .nx env := (if_of (x := false) (or_of (t5_ok (vis_of h)) (or_of (t6_ok _) (t7_ok _)))).trans rfl
theorem a3_ok {env : SEnv} (h : Has env 3 (.own B1)) (so : Sole env 3) : a3 env = .nx (env.set 3 (some (.own B0))) := by
  unfold a3 sIfValue
  rw [tA_ok, tB_ok (vis_own h)]
  have e1 : ∀ (k : Bool → Out), liftR (.ok false) k = k false := fun _ => rfl
  rw [e1]
  simp only [Bool.false_eq_true, if_false]
  rw [e1]
  simp only [Bool.false_eq_true, if_false]
  exact if_pos ⟨h, so⟩
theorem rng8 (E : IL.Env) : ∃ ds, mRng (mCons (mC (.int 8)) mNil) E = .ok ds ∧ ∀ d ∈ ds, ∃ j : Nat, d = .int j :=
  ⟨(List.range 8).map fun (i : Nat) => .int (i : Int), rfl, fun d hd => let ⟨j, _, e⟩ := List.mem_map.mp hd; ⟨j, e.symm⟩⟩
theorem turn_ok {ns : List Int} (hlen : ns.length ≤ 63) {k : Nat} {env : SEnv} (kp : Kp (.list (ns.map PyData.int)) env) : ∃ e, turn (env.set 1 (some (.val (.int k)))) = .nx e ∧ Kp (.list (ns.map PyData.int)) e := by
  obtain ⟨c, hc⟩ := cell ns hlen k
  obtain ⟨more, _, hm⟩ := drawn c k
  have kA := kp.val (d := .int k) 1 (by decide)
  have l := kp.len
  have v1 : Has (env.set 1 (some (.val (.int k)))) 1 (.val (.int k)) := has_set (by omega)
  have sA : a0 (env.set 1 (some (.val (.int k)))) = .nx ((env.set 1 (some (.val (.int k)))).set 2 (some (.val (.int more)))) :=
    asg_of ((call2 ((call2 (var_of (hid_of kA.scr)) (var_of (hid_of v1))).trans hc) (var_of (hid_of v1))).trans hm)
  have kB := kA.val (d := .int more) 2 (by decide)
  have v2 : Has ((env.set 1 (some (.val (.int k)))).set 2 (some (.val (.int more)))) 2 (.val (.int more)) := has_set (by rw [List.length_set]; omega)
  generalize (env.set 1 (some (.val (.int k)))).set 2 (some (.val (.int more))) = eB at sA kB v2
  have sN : sNewOb 3 eB = .nx (eB.set 3 (some (.own B1))) := if_pos (by rw [kB.len]; decide)
  have kC := kB.bk (d := B1)
  have v3 : Has (eB.set 3 (some (.own B1))) 3 (.own B1) := has_set (by rw [kB.len]; decide)
  have w2 : Has (eB.set 3 (some (.own B1))) 2 (.val (.int more)) := v2.ne (by decide)
  obtain ⟨ds, hds, hj⟩ := rng8 (hid (eB.set 3 (some (.own B1))))
  obtain ⟨eD, h1, q1, q2, q3⟩ := loop_inv (i := 4) (b := body) (I := fun e => Kp (.list (ns.map PyData.int)) e ∧ Has e 2 (.val (.int more)) ∧ Has e 3 (.own B1)) (ds := ds) (fun d hd e ⟨ke, he, he3⟩ => by
    obtain ⟨j, rfl⟩ := hj d hd
    exact body_ok (ke.val 4 (by decide)) (he.ne (by decide)) (he3.ne (by decide)) (has_set (by rw [ke.len]; decide))) _ ⟨kC, w2, v3⟩
  have s1 : a1 (eB.set 3 (some (.own B1))) = .nx eD := (for_of hds).trans h1
  obtain ⟨eE, h2, q4, q5⟩ := loop_inv (i := 9) (b := body2) (I := fun e => Kp (.list (ns.map PyData.int)) e ∧ Has e 3 (.own B1)) (ds := bads) (fun d hd e ⟨ke, he3⟩ => body2_ok hd (ke.val 9 (by decide)) (he3.ne (by decide)) (has_set (by rw [ke.len]; decide))) eD ⟨q1, q3⟩
  have s2 : a2 eD = .nx eE := (for_of (bads_ok _)).trans h2
  have s3 := a3_ok q5 q4.sole
  have kF := q4.bk (d := B0)
  have s4 : a4 (eE.set 3 (some (.own B0))) = .nx ((eE.set 3 (some (.own B0))).set 10 (some (.val both))) := asg_of (both_ok _)
  have kG := kF.val (d := both) 10 (by decide)
  have v10 : Has ((eE.set 3 (some (.own B0))).set 10 (some (.val both))) 10 (.val both) := has_set (by rw [kF.len]; decide)
  have u3 : Has ((eE.set 3 (some (.own B0))).set 10 (some (.val both))) 3 (.own B0) := (has_set (by rw [q4.len]; decide)).ne (by decide)
  refine ⟨_, ?_, kG⟩
  unfold turn
  rw [seq_nx sA, seq_nx sN, seq_nx s1, seq_nx s2, seq_nx s3, seq_nx s4, seq_nx (a5_ok v10), seq_nx (a6_ok _), a7_ok u3]
theorem rngN (ns : List Int) (E : IL.Env) (h : E[0]? = some (some (.list (ns.map PyData.int)))) : ∃ ds, mRng (mCons (mB gMax2 (mCons (mC (.int 1)) (mCons (mB gMin2 (mCons (mC (.int 3)) (mCons (mB gLen (mCons (mVar 0) mNil)) mNil))) mNil))) mNil) E = .ok ds ∧ ∀ d ∈ ds, ∃ j : Nat, d = .int j := by
  have hL : mB gLen (mCons (mVar 0) mNil) E = .ok (.int (ns.map PyData.int).length) := mB_of (cons_of (var_of h) rfl) rfl
  generalize ((ns.map PyData.int).length : Int) = n at hL
  have hm : mB gMin2 (mCons (mC (.int 3)) (mCons (mB gLen (mCons (mVar 0) mNil)) mNil)) E = .ok (.int (if n < 3 then n else 3)) := mB_of (cons_of rfl (cons_of hL rfl)) rfl
  have hm2 : mB gMax2 (mCons (mC (.int 1)) (mCons (mB gMin2 (mCons (mC (.int 3)) (mCons (mB gLen (mCons (mVar 0) mNil)) mNil))) mNil)) E = .ok (.int (if (if n < 3 then n else 3) > 1 then (if n < 3 then n else 3) else 1)) := mB_of (cons_of rfl (cons_of hm rfl)) rfl
  have b : 1 ≤ (if (if n < 3 then n else 3) > 1 then (if n < 3 then n else 3) else 1) ∧ (if (if n < 3 then n else 3) > 1 then (if n < 3 then n else 3) else 1) ≤ 3 := by
    constructor <;> split <;> (try split) <;> omega
  generalize (if (if n < 3 then n else 3) > 1 then (if n < 3 then n else 3) else 1) = z at hm2 b
  refine ⟨(List.range z.toNat).map fun (i : Nat) => .int (i : Int), ?_, fun d hd => let ⟨j, _, e⟩ := List.mem_map.mp hd; ⟨j, e.symm⟩⟩
  have hc : mCons (mB gMax2 (mCons (mC (.int 1)) (mCons (mB gMin2 (mCons (mC (.int 3)) (mCons (mB gLen (mCons (mVar 0) mNil)) mNil))) mNil))) mNil E = .ok [.int z] := cons_of hm2 rfl
  unfold mRng
  rw [hc]
  show ofO (rngOf [.int z]) = _
  have hr : rngOf [.int z] = some ((List.range z.toNat).map fun (i : Nat) => .int (i : Int)) := if_pos (by
    rw [decide_eq_true (show -(2 ^ 62) ≤ z by omega), Bool.true_and]
    exact decide_eq_true (decide_eq_true (show z < 2 ^ 62 by omega)))
  rw [hr]
  rfl

theorem sole0 (s : D) : Sole [some (.val s), none, none, none, none, none, none, none, none, none, none] 3 := fun j d hj h => by
  match j, h with
  | 0, h => cases h
  | 1, h => cases h
  | 2, h => cases h
  | 3, h => cases h
  | 4, h => cases h
  | 5, h => cases h
  | 6, h => cases h
  | 7, h => cases h
  | 8, h => cases h
  | 9, h => cases h
  | 10, h => cases h
theorem law_true (ns : List Int) (hlen : ns.length ≤ 63) : g_law [.list (ns.map PyData.int)] = .ok (.bool true) := by
  let s : D := .list (ns.map PyData.int)
  let env : SEnv := [some (.val s), none, none, none, none, none, none, none, none, none, none]
  obtain ⟨ds, hds, hj⟩ := rngN ns (hid env) rfl
  obtain ⟨e, h1, _⟩ := loop_inv (i := 1) (b := turn) (I := Kp s) (ds := ds) (fun d hd e ke => by
    obtain ⟨j, rfl⟩ := hj d hd
    exact turn_ok hlen ke) env ⟨rfl, rfl, sole0 s⟩
  show outR (m_law env) = _
  rw [m_law_eq, seq_nx ((for_of hds).trans h1)]
  rfl
end K20
namespace K20
open PySem PySem.Spec PyProof.Rows L2 IL
theorem mt_at {K : PySem.W.Frag} {C : Addr} {x qual : Str} {st : Stmt} {ps : List Str} {f : Addr} {oc kV dc pm cd ct : Value} {od an : Option Addr} {sl : Array (Option Value)} (a : PySem.W.findIn K (.ref C) x = some (some (.ref f)))
    (l : K.lookup f = some ⟨oc, od, .func (PySem.W.fnOf x qual (defArgs st) (defBody st) (defScope st) .none kV dc pm an cd ct), sl⟩) (c : PySem.W.codeIn K cd qual = true) (k : PySem.W.keepIn K (.ref f) = true) (n : PySem.W.isFn K (.ref f) = true)
    (b : ∀ (kV doc pm : Value) (an : Option Addr) (cdv ct : Value) (us : List Value), us.length = ps.length → bindArgs (PySem.W.fnOf x qual (defArgs st) (defBody st) (defScope st) .none kV doc pm an cdv ct) ⟨us, []⟩ = pure (ps.zip us)) :
    L2.Fun K x qual st f (PySem.W.fnOf x qual (defArgs st) (defBody st) (defScope st) .none kV dc pm an cd ct) ∧ Meth K C x f ∧ L2.Binds K (PySem.W.fnOf x qual (defArgs st) (defBody st) (defScope st) .none kV dc pm an cd ct) ps [] :=
  have F := fun_mk l c k
  ⟨F, ⟨a, n, k⟩, F.binds b⟩
theorem fun_at {K : PySem.W.Frag} {h : Heap} {mg : Str → Option Value} {x q : Str} {st : Stmt} {ps : List Str} {f : Addr} {oc kV dc pm cd ct : Value} {od an : Option Addr} {sl : Array (Option Value)} (X : K.In h) (G : h.Ns mainGlobals mg) (a : PySem.W.nsIn K mainGlobals x = some (some (.ref f)))
    (l : K.lookup f = some ⟨oc, od, .func (PySem.W.fnOf q q (defArgs st) (defBody st) (defScope st) .none kV dc pm an cd ct), sl⟩) (c : PySem.W.codeIn K cd q = true) (k : PySem.W.keepIn K (.ref f) = true)
    (b : ∀ (kV doc pm : Value) (an : Option Addr) (cdv ct : Value) (us : List Value), us.length = ps.length → bindArgs (PySem.W.fnOf q q (defArgs st) (defBody st) (defScope st) .none kV doc pm an cdv ct) ⟨us, []⟩ = pure (ps.zip us)) : FunAs K mg x q st ps :=
  have F := fun_mk l c k
  ⟨⟨_, _, F, PySem.W.mg_of X G a, F.binds b⟩⟩
theorem ints_all {K : PySem.W.Frag} {G : Hp} : ∀ ns : List Int, RpAll K G (ns.map V.int) (ns.map PyData.int)
  | [] => .nil
  | n :: ns => .cons (.int n) (ints_all ns)
def caOf (x_path : Addr) (x_state : Addr) (x_deed : Addr) (x_look : Addr) (x_number : Addr) (x_storm : Addr) : XC → Addr
  | .path => x_path
  | .state => x_state
  | .deed => x_deed
  | .look => x_look
  | .number => x_number
  | .storm => x_storm
  | _ => 0
theorem all_mk {w : World} {K : PySem.W.Frag} {h : Heap} {mg : Str → Option Value} {fa : Addr} (X : K.In h) (G : h.Ns mainGlobals mg) (hfa : mg "law" = some (.ref fa))
    {f0 : Addr} {oc0 kV0 dc0 pm0 cd0 ct0 : Value} {od0 an0 : Option Addr} {sl0 : Array (Option Value)}
    {f1 : Addr} {oc1 kV1 dc1 pm1 cd1 ct1 : Value} {od1 an1 : Option Addr} {sl1 : Array (Option Value)}
    {f2 : Addr} {oc2 kV2 dc2 pm2 cd2 ct2 : Value} {od2 an2 : Option Addr} {sl2 : Array (Option Value)}
    {f3 : Addr} {oc3 kV3 dc3 pm3 cd3 ct3 : Value} {od3 an3 : Option Addr} {sl3 : Array (Option Value)}
    {f4 : Addr} {oc4 kV4 dc4 pm4 cd4 ct4 : Value} {od4 an4 : Option Addr} {sl4 : Array (Option Value)}
    {f5 : Addr} {oc5 kV5 dc5 pm5 cd5 ct5 : Value} {od5 an5 : Option Addr} {sl5 : Array (Option Value)}
    {f6 : Addr} {oc6 kV6 dc6 pm6 cd6 ct6 : Value} {od6 an6 : Option Addr} {sl6 : Array (Option Value)}
    {f7 : Addr} {oc7 kV7 dc7 pm7 cd7 ct7 : Value} {od7 an7 : Option Addr} {sl7 : Array (Option Value)}
    {f8 : Addr} {oc8 kV8 dc8 pm8 cd8 ct8 : Value} {od8 an8 : Option Addr} {sl8 : Array (Option Value)}
    {f9 : Addr} {oc9 kV9 dc9 pm9 cd9 ct9 : Value} {od9 an9 : Option Addr} {sl9 : Array (Option Value)}
    {f10 : Addr} {oc10 kV10 dc10 pm10 cd10 ct10 : Value} {od10 an10 : Option Addr} {sl10 : Array (Option Value)}
    {f11 : Addr} {oc11 kV11 dc11 pm11 cd11 ct11 : Value} {od11 an11 : Option Addr} {sl11 : Array (Option Value)}
    {f12 : Addr} {oc12 kV12 dc12 pm12 cd12 ct12 : Value} {od12 an12 : Option Addr} {sl12 : Array (Option Value)}
    {f13 : Addr} {oc13 kV13 dc13 pm13 cd13 ct13 : Value} {od13 an13 : Option Addr} {sl13 : Array (Option Value)}
    {f14 : Addr} {oc14 kV14 dc14 pm14 cd14 ct14 : Value} {od14 an14 : Option Addr} {sl14 : Array (Option Value)}
    {f15 : Addr} {oc15 kV15 dc15 pm15 cd15 ct15 : Value} {od15 an15 : Option Addr} {sl15 : Array (Option Value)}
    {f16 : Addr} {oc16 kV16 dc16 pm16 cd16 ct16 : Value} {od16 an16 : Option Addr} {sl16 : Array (Option Value)}
    {f17 : Addr} {oc17 kV17 dc17 pm17 cd17 ct17 : Value} {od17 an17 : Option Addr} {sl17 : Array (Option Value)}
    {CL : Addr}
    {CK : Addr}
    {m0 : Addr} {ocm0 kVm0 dcm0 pmm0 ctm0 : Value} {odm0 anm0 : Option Addr} {slm0 : Array (Option Value)} {cm0 : Value}
    {m1 : Addr} {ocm1 kVm1 dcm1 pmm1 ctm1 : Value} {odm1 anm1 : Option Addr} {slm1 : Array (Option Value)} {cm1 : Value}
    {m2 : Addr} {ocm2 kVm2 dcm2 pmm2 ctm2 : Value} {odm2 anm2 : Option Addr} {slm2 : Array (Option Value)} {cm2 : Value}
    {m3 : Addr} {ocm3 kVm3 dcm3 pmm3 ctm3 : Value} {odm3 anm3 : Option Addr} {slm3 : Array (Option Value)} {cm3 : Value}
    {m4 : Addr} {ocm4 kVm4 dcm4 pmm4 ctm4 : Value} {odm4 anm4 : Option Addr} {slm4 : Array (Option Value)} {cm4 : Value}
    {m5 : Addr} {ocm5 kVm5 dcm5 pmm5 ctm5 : Value} {odm5 anm5 : Option Addr} {slm5 : Array (Option Value)} {cdm5 Pm5 : Addr}
    {oo5 : Value} {oe5 : Option Addr} {vsm5 : Array Value} {of5 : Array (Option Value)}
    {m6 : Addr} {ocm6 kVm6 dcm6 pmm6 ctm6 : Value} {odm6 anm6 : Option Addr} {slm6 : Array (Option Value)} {cm6 : Value}
    {m7 : Addr} {ocm7 kVm7 dcm7 pmm7 ctm7 : Value} {odm7 anm7 : Option Addr} {slm7 : Array (Option Value)} {cm7 : Value}
    {m8 : Addr} {ocm8 kVm8 dcm8 pmm8 ctm8 : Value} {odm8 anm8 : Option Addr} {slm8 : Array (Option Value)} {cm8 : Value}
    {fL : Addr} {ocL kVL dcL pmL ctL : Value} {odL anL : Option Addr} {slL : Array (Option Value)} {cdL PL : Addr}
    {ocL2 : Value} {odL2 : Option Addr} {vsL : Array Value} {slL2 : Array (Option Value)}
    {xS : Addr}
    {x_path : Addr}
    {x_state : Addr}
    {x_deed : Addr}
    {x_look : Addr}
    {x_number : Addr}
    {x_storm : Addr}
    {t_MOST_WORD : Tok}
    {t_MOST_DEEP : Tok}
    {t_MOST_WORTH_states : Tok}
    {t_MOST_NUMBER : Tok}
    {t_MOST_WITHIN : Tok}
    {t_SMALL : Tok}
    {p_READING nn_READING : Nat} {oc_READING : Option Addr} {sl_READING : Array (Option Value)} {u_READING0 : Tok} {u_READING1 : Tok} {u_READING2 : Tok} {u_READING3 : Tok}
    {p_TWO nn_TWO : Nat} {oc_TWO : Option Addr} {sl_TWO : Array (Option Value)} {u_TWO0 : Tok} {u_TWO1 : Tok} {u_TWO2 : Tok} {u_TWO3 : Tok} {u_TWO4 : Tok}
    (a0 : PySem.W.nsIn K mainGlobals "is_word" = some (some (.ref f0)))
    (l0 : K.lookup f0 = some ⟨oc0, od0, .func (PySem.W.fnOf "is_word" "is_word" (defArgs s_is_word) (defBody s_is_word) (defScope s_is_word) .none kV0 dc0 pm0 an0 cd0 ct0), sl0⟩)
    (c0 : PySem.W.codeIn K cd0 "is_word" = true)
    (k0 : PySem.W.keepIn K (.ref f0) = true)
    (a1 : PySem.W.nsIn K mainGlobals "is_path" = some (some (.ref f1)))
    (l1 : K.lookup f1 = some ⟨oc1, od1, .func (PySem.W.fnOf "is_path" "is_path" (defArgs s_is_path) (defBody s_is_path) (defScope s_is_path) .none kV1 dc1 pm1 an1 cd1 ct1), sl1⟩)
    (c1 : PySem.W.codeIn K cd1 "is_path" = true)
    (k1 : PySem.W.keepIn K (.ref f1) = true)
    (a2 : PySem.W.nsIn K mainGlobals "need_name" = some (some (.ref f2)))
    (l2 : K.lookup f2 = some ⟨oc2, od2, .func (PySem.W.fnOf "need_name" "need_name" (defArgs s_need_name) (defBody s_need_name) (defScope s_need_name) .none kV2 dc2 pm2 an2 cd2 ct2), sl2⟩)
    (c2 : PySem.W.codeIn K cd2 "need_name" = true)
    (k2 : PySem.W.keepIn K (.ref f2) = true)
    (a3 : PySem.W.nsIn K mainGlobals "is_number" = some (some (.ref f3)))
    (l3 : K.lookup f3 = some ⟨oc3, od3, .func (PySem.W.fnOf "is_number" "is_number" (defArgs s_is_number) (defBody s_is_number) (defScope s_is_number) .none kV3 dc3 pm3 an3 cd3 ct3), sl3⟩)
    (c3 : PySem.W.codeIn K cd3 "is_number" = true)
    (k3 : PySem.W.keepIn K (.ref f3) = true)
    (a4 : PySem.W.nsIn K mainGlobals "is_state" = some (some (.ref f4)))
    (l4 : K.lookup f4 = some ⟨oc4, od4, .func (PySem.W.fnOf "is_state" "is_state" (defArgs s_is_state) (defBody s_is_state) (defScope s_is_state) .none kV4 dc4 pm4 an4 cd4 ct4), sl4⟩)
    (c4 : PySem.W.codeIn K cd4 "is_state" = true)
    (k4 : PySem.W.keepIn K (.ref f4) = true)
    (a5 : PySem.W.nsIn K mainGlobals "need_state" = some (some (.ref f5)))
    (l5 : K.lookup f5 = some ⟨oc5, od5, .func (PySem.W.fnOf "need_state" "need_state" (defArgs s_need_state) (defBody s_need_state) (defScope s_need_state) .none kV5 dc5 pm5 an5 cd5 ct5), sl5⟩)
    (c5 : PySem.W.codeIn K cd5 "need_state" = true)
    (k5 : PySem.W.keepIn K (.ref f5) = true)
    (a6 : PySem.W.nsIn K mainGlobals "need_terms" = some (some (.ref f6)))
    (l6 : K.lookup f6 = some ⟨oc6, od6, .func (PySem.W.fnOf "need" "need" (defArgs s_need_terms) (defBody s_need_terms) (defScope s_need_terms) .none kV6 dc6 pm6 an6 cd6 ct6), sl6⟩)
    (c6 : PySem.W.codeIn K cd6 "need" = true)
    (k6 : PySem.W.keepIn K (.ref f6) = true)
    (a7 : PySem.W.nsIn K mainGlobals "need_deep" = some (some (.ref f7)))
    (l7 : K.lookup f7 = some ⟨oc7, od7, .func (PySem.W.fnOf "need_deep" "need_deep" (defArgs s_need_deep) (defBody s_need_deep) (defScope s_need_deep) .none kV7 dc7 pm7 an7 cd7 ct7), sl7⟩)
    (c7 : PySem.W.codeIn K cd7 "need_deep" = true)
    (k7 : PySem.W.keepIn K (.ref f7) = true)
    (a8 : PySem.W.nsIn K mainGlobals "need_term" = some (some (.ref f8)))
    (l8 : K.lookup f8 = some ⟨oc8, od8, .func (PySem.W.fnOf "need_term" "need_term" (defArgs s_need_term) (defBody s_need_term) (defScope s_need_term) .none kV8 dc8 pm8 an8 cd8 ct8), sl8⟩)
    (c8 : PySem.W.codeIn K cd8 "need_term" = true)
    (k8 : PySem.W.keepIn K (.ref f8) = true)
    (a9 : PySem.W.nsIn K mainGlobals "looks_in" = some (some (.ref f9)))
    (l9 : K.lookup f9 = some ⟨oc9, od9, .func (PySem.W.fnOf "looks_in" "looks_in" (defArgs s_looks_in) (defBody s_looks_in) (defScope s_looks_in) .none kV9 dc9 pm9 an9 cd9 ct9), sl9⟩)
    (c9 : PySem.W.codeIn K cd9 "looks_in" = true)
    (k9 : PySem.W.keepIn K (.ref f9) = true)
    (a10 : PySem.W.nsIn K mainGlobals "need_looks" = some (some (.ref f10)))
    (l10 : K.lookup f10 = some ⟨oc10, od10, .func (PySem.W.fnOf "need" "need" (defArgs s_need_looks) (defBody s_need_looks) (defScope s_need_looks) .none kV10 dc10 pm10 an10 cd10 ct10), sl10⟩)
    (c10 : PySem.W.codeIn K cd10 "need" = true)
    (k10 : PySem.W.keepIn K (.ref f10) = true)
    (a11 : PySem.W.nsIn K mainGlobals "worth" = some (some (.ref f11)))
    (l11 : K.lookup f11 = some ⟨oc11, od11, .func (PySem.W.fnOf "worth" "worth" (defArgs s_worth) (defBody s_worth) (defScope s_worth) .none kV11 dc11 pm11 an11 cd11 ct11), sl11⟩)
    (c11 : PySem.W.codeIn K cd11 "worth" = true)
    (k11 : PySem.W.keepIn K (.ref f11) = true)
    (a12 : PySem.W.nsIn K mainGlobals "_law_cell" = some (some (.ref f12)))
    (l12 : K.lookup f12 = some ⟨oc12, od12, .func (PySem.W.fnOf "_law_cell" "_law_cell" (defArgs s_law_cell) (defBody s_law_cell) (defScope s_law_cell) .none kV12 dc12 pm12 an12 cd12 ct12), sl12⟩)
    (c12 : PySem.W.codeIn K cd12 "_law_cell" = true)
    (k12 : PySem.W.keepIn K (.ref f12) = true)
    (a13 : PySem.W.nsIn K mainGlobals "_law_drawn" = some (some (.ref f13)))
    (l13 : K.lookup f13 = some ⟨oc13, od13, .func (PySem.W.fnOf "_law_drawn" "_law_drawn" (defArgs s_law_drawn) (defBody s_law_drawn) (defScope s_law_drawn) .none kV13 dc13 pm13 an13 cd13 ct13), sl13⟩)
    (c13 : PySem.W.codeIn K cd13 "_law_drawn" = true)
    (k13 : PySem.W.keepIn K (.ref f13) = true)
    (a14 : PySem.W.nsIn K mainGlobals "_law_tower" = some (some (.ref f14)))
    (l14 : K.lookup f14 = some ⟨oc14, od14, .func (PySem.W.fnOf "_law_tower" "_law_tower" (defArgs s_law_tower) (defBody s_law_tower) (defScope s_law_tower) .none kV14 dc14 pm14 an14 cd14 ct14), sl14⟩)
    (c14 : PySem.W.codeIn K cd14 "_law_tower" = true)
    (k14 : PySem.W.keepIn K (.ref f14) = true)
    (a15 : PySem.W.nsIn K mainGlobals "_law_none" = some (some (.ref f15)))
    (l15 : K.lookup f15 = some ⟨oc15, od15, .func (PySem.W.fnOf "_law_none" "_law_none" (defArgs s_law_none) (defBody s_law_none) (defScope s_law_none) .none kV15 dc15 pm15 an15 cd15 ct15), sl15⟩)
    (c15 : PySem.W.codeIn K cd15 "_law_none" = true)
    (k15 : PySem.W.keepIn K (.ref f15) = true)
    (a16 : PySem.W.nsIn K mainGlobals "_law_word" = some (some (.ref f16)))
    (l16 : K.lookup f16 = some ⟨oc16, od16, .func (PySem.W.fnOf "_law_word" "_law_word" (defArgs s_word) (defBody s_word) (defScope s_word) .none kV16 dc16 pm16 an16 cd16 ct16), sl16⟩)
    (c16 : PySem.W.codeIn K cd16 "_law_word" = true)
    (k16 : PySem.W.keepIn K (.ref f16) = true)
    (a17 : PySem.W.nsIn K mainGlobals "_law_told" = some (some (.ref f17)))
    (l17 : K.lookup f17 = some ⟨oc17, od17, .func (PySem.W.fnOf "_law_told" "_law_told" (defArgs s_told) (defBody s_told) (defScope s_told) .none kV17 dc17 pm17 an17 cd17 ct17), sl17⟩)
    (c17 : PySem.W.codeIn K cd17 "_law_told" = true)
    (k17 : PySem.W.keepIn K (.ref f17) = true)
    (CL_g : PySem.W.nsIn K mainGlobals "Looks" = some (some (.ref CL)))
    (CL_pg : PySem.W.plainGet K CL Str.empty = true)
    (CL_hd : PySem.W.hasDictIn K CL = true)
    (CL_po : PySem.W.plainOver K CL = true)
    (CL_sa : PySem.W.findIn K (.ref CL) "__setattr__" = some (some (.builtin "object.__setattr__")))
    (CL_n_now : PySem.W.findIn K (.ref CL) "now" = some none)
    (CL_n_terms : PySem.W.findIn K (.ref CL) "terms" = some none)
    (CL_n_known : PySem.W.findIn K (.ref CL) "known" = some none)
    (CL_n_done : PySem.W.findIn K (.ref CL) "done" = some none)
    (CL_mk : PySem.W.makesIn K CL = true)
    (CL_kp : PySem.W.keepIn K (.ref CL) = true)
    (CK_g : PySem.W.nsIn K mainGlobals "Known" = some (some (.ref CK)))
    (CK_pg : PySem.W.plainGet K CK Str.empty = true)
    (CK_hd : PySem.W.hasDictIn K CK = true)
    (CK_po : PySem.W.plainOver K CK = true)
    (CK_sa : PySem.W.findIn K (.ref CK) "__setattr__" = some (some (.builtin "object.__setattr__")))
    (CK_n_own : PySem.W.findIn K (.ref CK) "own" = some none)
    (CK_n_row : PySem.W.findIn K (.ref CK) "row" = some none)
    (CK_mk : PySem.W.makesIn K CK = true)
    (CK_kp : PySem.W.keepIn K (.ref CK) = true)
    (ma0 : PySem.W.findIn K (.ref CL) "__init__" = some (some (.ref m0)))
    (ml0 : K.lookup m0 = some ⟨ocm0, odm0, .func (PySem.W.fnOf "__init__" "Looks.__init__" (defArgs s_init) (defBody s_init) (defScope s_init) .none kVm0 dcm0 pmm0 anm0 cm0 ctm0), slm0⟩)
    (mc0 : PySem.W.codeIn K cm0 "Looks.__init__" = true)
    (mk0 : PySem.W.keepIn K (.ref m0) = true)
    (mf0 : PySem.W.isFn K (.ref m0) = true)
    (ma1 : PySem.W.findIn K (.ref CL) "define" = some (some (.ref m1)))
    (ml1 : K.lookup m1 = some ⟨ocm1, odm1, .func (PySem.W.fnOf "define" "Looks.define" (defArgs s_Looks_define) (defBody s_Looks_define) (defScope s_Looks_define) .none kVm1 dcm1 pmm1 anm1 cm1 ctm1), slm1⟩)
    (mc1 : PySem.W.codeIn K cm1 "Looks.define" = true)
    (mk1 : PySem.W.keepIn K (.ref m1) = true)
    (mf1 : PySem.W.isFn K (.ref m1) = true)
    (ma2 : PySem.W.findIn K (.ref CL) "names" = some (some (.ref m2)))
    (ml2 : K.lookup m2 = some ⟨ocm2, odm2, .func (PySem.W.fnOf "names" "Looks.names" (defArgs s_Looks_names) (defBody s_Looks_names) (defScope s_Looks_names) .none kVm2 dcm2 pmm2 anm2 cm2 ctm2), slm2⟩)
    (mc2 : PySem.W.codeIn K cm2 "Looks.names" = true)
    (mk2 : PySem.W.keepIn K (.ref m2) = true)
    (mf2 : PySem.W.isFn K (.ref m2) = true)
    (ma3 : PySem.W.findIn K (.ref CL) "show" = some (some (.ref m3)))
    (ml3 : K.lookup m3 = some ⟨ocm3, odm3, .func (PySem.W.fnOf "show" "Looks.show" (defArgs s_Looks_show) (defBody s_Looks_show) (defScope s_Looks_show) .none kVm3 dcm3 pmm3 anm3 cm3 ctm3), slm3⟩)
    (mc3 : PySem.W.codeIn K cm3 "Looks.show" = true)
    (mk3 : PySem.W.keepIn K (.ref m3) = true)
    (mf3 : PySem.W.isFn K (.ref m3) = true)
    (ma4 : PySem.W.findIn K (.ref CL) "is_fresh" = some (some (.ref m4)))
    (ml4 : K.lookup m4 = some ⟨ocm4, odm4, .func (PySem.W.fnOf "is_fresh" "Looks.is_fresh" (defArgs s_fresh) (defBody s_fresh) (defScope s_fresh) .none kVm4 dcm4 pmm4 anm4 cm4 ctm4), slm4⟩)
    (mc4 : PySem.W.codeIn K cm4 "Looks.is_fresh" = true)
    (mk4 : PySem.W.keepIn K (.ref m4) = true)
    (mf4 : PySem.W.isFn K (.ref m4) = true)
    (ma5 : PySem.W.findIn K (.ref CL) "work_out" = some (some (.ref m5)))
    (ml5 : K.lookup m5 = some ⟨ocm5, odm5, .func (PySem.W.fnOf "work_out" "Looks.work_out" (defArgs s_work) (defBody s_work) (defScope s_work) .none kVm5 dcm5 pmm5 anm5 (.ref cdm5) ctm5), slm5⟩)
    (mc5 : PySem.W.codeIn K (.ref cdm5) "Looks.work_out" = true)
    (mk5 : PySem.W.keepIn K (.ref m5) = true)
    (mf5 : PySem.W.isFn K (.ref m5) = true)
    (mo5 : K.lookup cdm5 = some ⟨oo5, oe5, .fields vsm5, of5⟩)
    (me5 : vsm5[11]? = some (.ref Pm5))
    (mh5 : PySem.W.codeHdIn K cdm5 Pm5 = true)
    (mn5 : K.lookup Pm5 = none)
    (ma6 : PySem.W.findIn K (.ref CL) "value" = some (some (.ref m6)))
    (ml6 : K.lookup m6 = some ⟨ocm6, odm6, .func (PySem.W.fnOf "value" "Looks.value" (defArgs s_Looks_value) (defBody s_Looks_value) (defScope s_Looks_value) .none kVm6 dcm6 pmm6 anm6 cm6 ctm6), slm6⟩)
    (mc6 : PySem.W.codeIn K cm6 "Looks.value" = true)
    (mk6 : PySem.W.keepIn K (.ref m6) = true)
    (mf6 : PySem.W.isFn K (.ref m6) = true)
    (ma7 : PySem.W.findIn K (.ref CL) "readings" = some (some (.ref m7)))
    (ml7 : K.lookup m7 = some ⟨ocm7, odm7, .func (PySem.W.fnOf "readings" "Looks.readings" (defArgs s_Looks_readings) (defBody s_Looks_readings) (defScope s_Looks_readings) .none kVm7 dcm7 pmm7 anm7 cm7 ctm7), slm7⟩)
    (mc7 : PySem.W.codeIn K cm7 "Looks.readings" = true)
    (mk7 : PySem.W.keepIn K (.ref m7) = true)
    (mf7 : PySem.W.isFn K (.ref m7) = true)
    (ma8 : PySem.W.findIn K (.ref CK) "__init__" = some (some (.ref m8)))
    (ml8 : K.lookup m8 = some ⟨ocm8, odm8, .func (PySem.W.fnOf "__init__" "Known.__init__" (defArgs s_kinit) (defBody s_kinit) (defScope s_kinit) .none kVm8 dcm8 pmm8 anm8 cm8 ctm8), slm8⟩)
    (mc8 : PySem.W.codeIn K cm8 "Known.__init__" = true)
    (mk8 : PySem.W.keepIn K (.ref m8) = true)
    (mf8 : PySem.W.isFn K (.ref m8) = true)
    (aL : PySem.W.nsIn K mainGlobals "law" = some (some (.ref fL)))
    (lL : K.lookup fL = some ⟨ocL, odL, .func (PySem.W.fnOf "law" "law" (defArgs s_law) (defBody s_law) (defScope s_law) .none kVL dcL pmL anL (.ref cdL) ctL), slL⟩)
    (cL : PySem.W.codeIn K (.ref cdL) "law" = true)
    (oL : K.lookup cdL = some ⟨ocL2, odL2, .fields vsL, slL2⟩)
    (eL : vsL[11]? = some (.ref PL))
    (hL : PySem.W.codeHdIn K cdL PL = true)
    (nL : K.lookup PL = none)
    (gS : PySem.W.nsIn K mainGlobals "LookError" = some (some (.ref xS)))
    (g_path : PySem.W.nsIn K mainGlobals "BadPath" = some (some (.ref x_path)))
    (q_path : PySem.W.excIn K x_path [.type "ValueError", .type "Exception", .type "BaseException", .type "object"] "ValueError.__new__" = true)
    (kp_path : PySem.W.keepIn K (.ref x_path) = true)
    (ty_path : PySem.W.typeIn K (.ref x_path) = some (.type "type"))
    (hg_path : PySem.W.findIn K (.ref x_path) "__getattribute__" = some (some (.builtin "BaseException.__getattribute__")))
    (hk_path : PySem.W.findIn K (.ref x_path) "__getattr__" = some none)
    (hs_path : PySem.W.subIn K (.ref x_path) (.type "BaseException") = some true)
    (hd_path : PySem.W.hasDictIn K x_path = true)
    (ha_path : PySem.W.findIn K (.ref x_path) "__class__" = some (some (.builtin "object.__class__")))
    (hm_path : PySem.W.mroIn K x_path (.type "object") = some true)
    (kv_path : PySem.W.kitOne K (.ref x_path) (.type "ValueError") = some true)
    (ex_path : PySem.W.exmOne K (.ref x_path) (.ref xS) = some true)
    (ki_path_path : PySem.W.kitOne K (.ref x_path) (.ref x_path) = some true)
    (ki_path_state : PySem.W.kitOne K (.ref x_path) (.ref x_state) = some false)
    (ki_path_deed : PySem.W.kitOne K (.ref x_path) (.ref x_deed) = some false)
    (ki_path_look : PySem.W.kitOne K (.ref x_path) (.ref x_look) = some false)
    (ki_path_number : PySem.W.kitOne K (.ref x_path) (.ref x_number) = some false)
    (ki_path_storm : PySem.W.kitOne K (.ref x_path) (.ref x_storm) = some false)
    (g_state : PySem.W.nsIn K mainGlobals "BadState" = some (some (.ref x_state)))
    (q_state : PySem.W.excIn K x_state [.type "ValueError", .type "Exception", .type "BaseException", .type "object"] "ValueError.__new__" = true)
    (kp_state : PySem.W.keepIn K (.ref x_state) = true)
    (ty_state : PySem.W.typeIn K (.ref x_state) = some (.type "type"))
    (hg_state : PySem.W.findIn K (.ref x_state) "__getattribute__" = some (some (.builtin "BaseException.__getattribute__")))
    (hk_state : PySem.W.findIn K (.ref x_state) "__getattr__" = some none)
    (hs_state : PySem.W.subIn K (.ref x_state) (.type "BaseException") = some true)
    (hd_state : PySem.W.hasDictIn K x_state = true)
    (ha_state : PySem.W.findIn K (.ref x_state) "__class__" = some (some (.builtin "object.__class__")))
    (hm_state : PySem.W.mroIn K x_state (.type "object") = some true)
    (kv_state : PySem.W.kitOne K (.ref x_state) (.type "ValueError") = some true)
    (ex_state : PySem.W.exmOne K (.ref x_state) (.ref xS) = some true)
    (ki_state_path : PySem.W.kitOne K (.ref x_state) (.ref x_path) = some false)
    (ki_state_state : PySem.W.kitOne K (.ref x_state) (.ref x_state) = some true)
    (ki_state_deed : PySem.W.kitOne K (.ref x_state) (.ref x_deed) = some false)
    (ki_state_look : PySem.W.kitOne K (.ref x_state) (.ref x_look) = some false)
    (ki_state_number : PySem.W.kitOne K (.ref x_state) (.ref x_number) = some false)
    (ki_state_storm : PySem.W.kitOne K (.ref x_state) (.ref x_storm) = some false)
    (g_deed : PySem.W.nsIn K mainGlobals "BadDeed" = some (some (.ref x_deed)))
    (hg_deed : PySem.W.findIn K (.ref x_deed) "__getattribute__" = some (some (.builtin "BaseException.__getattribute__")))
    (hk_deed : PySem.W.findIn K (.ref x_deed) "__getattr__" = some none)
    (hs_deed : PySem.W.subIn K (.ref x_deed) (.type "BaseException") = some true)
    (hd_deed : PySem.W.hasDictIn K x_deed = true)
    (ha_deed : PySem.W.findIn K (.ref x_deed) "__class__" = some (some (.builtin "object.__class__")))
    (hm_deed : PySem.W.mroIn K x_deed (.type "object") = some true)
    (kv_deed : PySem.W.kitOne K (.ref x_deed) (.type "ValueError") = some true)
    (ex_deed : PySem.W.exmOne K (.ref x_deed) (.ref xS) = some true)
    (ki_deed_path : PySem.W.kitOne K (.ref x_deed) (.ref x_path) = some false)
    (ki_deed_state : PySem.W.kitOne K (.ref x_deed) (.ref x_state) = some false)
    (ki_deed_deed : PySem.W.kitOne K (.ref x_deed) (.ref x_deed) = some true)
    (ki_deed_look : PySem.W.kitOne K (.ref x_deed) (.ref x_look) = some false)
    (ki_deed_number : PySem.W.kitOne K (.ref x_deed) (.ref x_number) = some false)
    (ki_deed_storm : PySem.W.kitOne K (.ref x_deed) (.ref x_storm) = some false)
    (g_look : PySem.W.nsIn K mainGlobals "BadLook" = some (some (.ref x_look)))
    (q_look : PySem.W.excIn K x_look [.type "ValueError", .type "Exception", .type "BaseException", .type "object"] "ValueError.__new__" = true)
    (kp_look : PySem.W.keepIn K (.ref x_look) = true)
    (ty_look : PySem.W.typeIn K (.ref x_look) = some (.type "type"))
    (hg_look : PySem.W.findIn K (.ref x_look) "__getattribute__" = some (some (.builtin "BaseException.__getattribute__")))
    (hk_look : PySem.W.findIn K (.ref x_look) "__getattr__" = some none)
    (hs_look : PySem.W.subIn K (.ref x_look) (.type "BaseException") = some true)
    (hd_look : PySem.W.hasDictIn K x_look = true)
    (ha_look : PySem.W.findIn K (.ref x_look) "__class__" = some (some (.builtin "object.__class__")))
    (hm_look : PySem.W.mroIn K x_look (.type "object") = some true)
    (kv_look : PySem.W.kitOne K (.ref x_look) (.type "ValueError") = some true)
    (ex_look : PySem.W.exmOne K (.ref x_look) (.ref xS) = some true)
    (ki_look_path : PySem.W.kitOne K (.ref x_look) (.ref x_path) = some false)
    (ki_look_state : PySem.W.kitOne K (.ref x_look) (.ref x_state) = some false)
    (ki_look_deed : PySem.W.kitOne K (.ref x_look) (.ref x_deed) = some false)
    (ki_look_look : PySem.W.kitOne K (.ref x_look) (.ref x_look) = some true)
    (ki_look_number : PySem.W.kitOne K (.ref x_look) (.ref x_number) = some false)
    (ki_look_storm : PySem.W.kitOne K (.ref x_look) (.ref x_storm) = some false)
    (g_number : PySem.W.nsIn K mainGlobals "BadNumber" = some (some (.ref x_number)))
    (hg_number : PySem.W.findIn K (.ref x_number) "__getattribute__" = some (some (.builtin "BaseException.__getattribute__")))
    (hk_number : PySem.W.findIn K (.ref x_number) "__getattr__" = some none)
    (hs_number : PySem.W.subIn K (.ref x_number) (.type "BaseException") = some true)
    (hd_number : PySem.W.hasDictIn K x_number = true)
    (ha_number : PySem.W.findIn K (.ref x_number) "__class__" = some (some (.builtin "object.__class__")))
    (hm_number : PySem.W.mroIn K x_number (.type "object") = some true)
    (kv_number : PySem.W.kitOne K (.ref x_number) (.type "ValueError") = some true)
    (ex_number : PySem.W.exmOne K (.ref x_number) (.ref xS) = some true)
    (ki_number_path : PySem.W.kitOne K (.ref x_number) (.ref x_path) = some false)
    (ki_number_state : PySem.W.kitOne K (.ref x_number) (.ref x_state) = some false)
    (ki_number_deed : PySem.W.kitOne K (.ref x_number) (.ref x_deed) = some false)
    (ki_number_look : PySem.W.kitOne K (.ref x_number) (.ref x_look) = some false)
    (ki_number_number : PySem.W.kitOne K (.ref x_number) (.ref x_number) = some true)
    (ki_number_storm : PySem.W.kitOne K (.ref x_number) (.ref x_storm) = some false)
    (g_storm : PySem.W.nsIn K mainGlobals "Storm" = some (some (.ref x_storm)))
    (hg_storm : PySem.W.findIn K (.ref x_storm) "__getattribute__" = some (some (.builtin "BaseException.__getattribute__")))
    (hk_storm : PySem.W.findIn K (.ref x_storm) "__getattr__" = some none)
    (hs_storm : PySem.W.subIn K (.ref x_storm) (.type "BaseException") = some true)
    (hd_storm : PySem.W.hasDictIn K x_storm = true)
    (ha_storm : PySem.W.findIn K (.ref x_storm) "__class__" = some (some (.builtin "object.__class__")))
    (hm_storm : PySem.W.mroIn K x_storm (.type "object") = some true)
    (kv_storm : PySem.W.kitOne K (.ref x_storm) (.type "ValueError") = some true)
    (ex_storm : PySem.W.exmOne K (.ref x_storm) (.ref xS) = some true)
    (ki_storm_path : PySem.W.kitOne K (.ref x_storm) (.ref x_path) = some false)
    (ki_storm_state : PySem.W.kitOne K (.ref x_storm) (.ref x_state) = some false)
    (ki_storm_deed : PySem.W.kitOne K (.ref x_storm) (.ref x_deed) = some false)
    (ki_storm_look : PySem.W.kitOne K (.ref x_storm) (.ref x_look) = some false)
    (ki_storm_number : PySem.W.kitOne K (.ref x_storm) (.ref x_number) = some false)
    (ki_storm_storm : PySem.W.kitOne K (.ref x_storm) (.ref x_storm) = some true)
    (hn : PySem.W.specialIn K (.builtin "object.__class__") "__get__" = some (some (.builtin "getset_descriptor.__get__")))
    (ht : PySem.W.takesIn K (.builtin "object.__class__") = some true)
    (n_MOST_WORD : PySem.W.nsIn K mainGlobals "MOST_WORD" = some (some (.int 6 t_MOST_WORD)))
    (n_MOST_DEEP : PySem.W.nsIn K mainGlobals "MOST_DEEP" = some (some (.int 4 t_MOST_DEEP)))
    (n_MOST_WORTH_states : PySem.W.nsIn K mainGlobals "MOST_WORTH_states" = some (some (.int 1000000000 t_MOST_WORTH_states)))
    (n_MOST_NUMBER : PySem.W.nsIn K mainGlobals "MOST_NUMBER" = some (some (.int 1000000000 t_MOST_NUMBER)))
    (n_MOST_WITHIN : PySem.W.nsIn K mainGlobals "MOST_WITHIN" = some (some (.int 8 t_MOST_WITHIN)))
    (n_SMALL : PySem.W.nsIn K mainGlobals "SMALL" = some (some (.str "abcdefghijklmnopqrstuvwxyz" t_SMALL)))
    (b_isinstance : PySem.W.nsIn K mainGlobals "isinstance" = some none)
    (b_str : PySem.W.nsIn K mainGlobals "str" = some none)
    (b_tuple : PySem.W.nsIn K mainGlobals "tuple" = some none)
    (b_dict : PySem.W.nsIn K mainGlobals "dict" = some none)
    (b_int : PySem.W.nsIn K mainGlobals "int" = some none)
    (b_bool : PySem.W.nsIn K mainGlobals "bool" = some none)
    (b_len : PySem.W.nsIn K mainGlobals "len" = some none)
    (b_abs : PySem.W.nsIn K mainGlobals "abs" = some none)
    (b_all : PySem.W.nsIn K mainGlobals "all" = some none)
    (b_any : PySem.W.nsIn K mainGlobals "any" = some none)
    (b_sum : PySem.W.nsIn K mainGlobals "sum" = some none)
    (b_max : PySem.W.nsIn K mainGlobals "max" = some none)
    (b_min : PySem.W.nsIn K mainGlobals "min" = some none)
    (b_range : PySem.W.nsIn K mainGlobals "range" = some none)
    (b_sorted : PySem.W.nsIn K mainGlobals "sorted" = some none)
    (b_list : PySem.W.nsIn K mainGlobals "list" = some none)
    (b_ValueError : PySem.W.nsIn K mainGlobals "ValueError" = some none)
    (PLm : PL ≠ Pm5)
    (sg_READING : PySem.W.nsIn K mainGlobals "READING" = some (some (.ref p_READING)))
    (sl_READING' : K.lookup p_READING = some ⟨.type "tuple", oc_READING, .seq #[.str "at" u_READING0, .str "there" u_READING1, .str "sum" u_READING2, .str "many" u_READING3] nn_READING, sl_READING⟩)
    (sg_TWO : PySem.W.nsIn K mainGlobals "TWO" = some (some (.ref p_TWO)))
    (sl_TWO' : K.lookup p_TWO = some ⟨.type "tuple", oc_TWO, .seq #[.str "plus" u_TWO0, .str "less" u_TWO1, .str "times" u_TWO2, .str "same" u_TWO3, .str "below" u_TWO4] nn_TWO, sl_TWO⟩)
    (tbPL : h.get? PL = some { cls := .none, data := .fields #[] }) (tbPm5 : h.get? Pm5 = some { cls := .none, data := .fields #[] }) :
    LamX.LawAtS PySem.Challenge.rw_lookhouse_k20_terms_refused w K (L2N.CX PySem.Challenge.rw_lookhouse_k20_terms_refused.prog w) 23 63 "_law_script" mg fa h := by
  have mgo := fun {n : Str} {v : Value} (e : PySem.W.nsIn K mainGlobals n = some (some v)) => PySem.W.mg_of X G e
  have mgn := fun {n : Str} (e : PySem.W.nsIn K mainGlobals n = some none) => PySem.W.mg_none_of X G e
  cases hfa.symm.trans (mgo aL)
  have eC : ∀ c ∈ six, ExcC K ((caOf x_path x_state x_deed x_look x_number x_storm) c) := fun c hc => by
    cases c
    case path => exact ⟨hg_path, hk_path, hs_path, hd_path, ha_path, hn, ht, hm_path⟩
    case state => exact ⟨hg_state, hk_state, hs_state, hd_state, ha_state, hn, ht, hm_state⟩
    case deed => exact ⟨hg_deed, hk_deed, hs_deed, hd_deed, ha_deed, hn, ht, hm_deed⟩
    case look => exact ⟨hg_look, hk_look, hs_look, hd_look, ha_look, hn, ht, hm_look⟩
    case number => exact ⟨hg_number, hk_number, hs_number, hd_number, ha_number, hn, ht, hm_number⟩
    case storm => exact ⟨hg_storm, hk_storm, hs_storm, hd_storm, ha_storm, hn, ht, hm_storm⟩
    case text => exact absurd hc (by decide)
  have eK_path : ∀ c ∈ six, PySem.W.kitOne K (.ref x_path) (.ref ((caOf x_path x_state x_deed x_look x_number x_storm) c)) = some (decide ((.path : XC) = c)) := fun c hc => by
    cases c
    case path => exact ki_path_path
    case state => exact ki_path_state
    case deed => exact ki_path_deed
    case look => exact ki_path_look
    case number => exact ki_path_number
    case storm => exact ki_path_storm
    case text => exact absurd hc (by decide)
  have eK_state : ∀ c ∈ six, PySem.W.kitOne K (.ref x_state) (.ref ((caOf x_path x_state x_deed x_look x_number x_storm) c)) = some (decide ((.state : XC) = c)) := fun c hc => by
    cases c
    case path => exact ki_state_path
    case state => exact ki_state_state
    case deed => exact ki_state_deed
    case look => exact ki_state_look
    case number => exact ki_state_number
    case storm => exact ki_state_storm
    case text => exact absurd hc (by decide)
  have eK_deed : ∀ c ∈ six, PySem.W.kitOne K (.ref x_deed) (.ref ((caOf x_path x_state x_deed x_look x_number x_storm) c)) = some (decide ((.deed : XC) = c)) := fun c hc => by
    cases c
    case path => exact ki_deed_path
    case state => exact ki_deed_state
    case deed => exact ki_deed_deed
    case look => exact ki_deed_look
    case number => exact ki_deed_number
    case storm => exact ki_deed_storm
    case text => exact absurd hc (by decide)
  have eK_look : ∀ c ∈ six, PySem.W.kitOne K (.ref x_look) (.ref ((caOf x_path x_state x_deed x_look x_number x_storm) c)) = some (decide ((.look : XC) = c)) := fun c hc => by
    cases c
    case path => exact ki_look_path
    case state => exact ki_look_state
    case deed => exact ki_look_deed
    case look => exact ki_look_look
    case number => exact ki_look_number
    case storm => exact ki_look_storm
    case text => exact absurd hc (by decide)
  have eK_number : ∀ c ∈ six, PySem.W.kitOne K (.ref x_number) (.ref ((caOf x_path x_state x_deed x_look x_number x_storm) c)) = some (decide ((.number : XC) = c)) := fun c hc => by
    cases c
    case path => exact ki_number_path
    case state => exact ki_number_state
    case deed => exact ki_number_deed
    case look => exact ki_number_look
    case number => exact ki_number_number
    case storm => exact ki_number_storm
    case text => exact absurd hc (by decide)
  have eK_storm : ∀ c ∈ six, PySem.W.kitOne K (.ref x_storm) (.ref ((caOf x_path x_state x_deed x_look x_number x_storm) c)) = some (decide ((.storm : XC) = c)) := fun c hc => by
    cases c
    case path => exact ki_storm_path
    case state => exact ki_storm_state
    case deed => exact ki_storm_deed
    case look => exact ki_storm_look
    case number => exact ki_storm_number
    case storm => exact ki_storm_storm
    case text => exact absurd hc (by decide)
  have eKit : ∀ c ∈ six, ∀ d ∈ six, PySem.W.kitOne K (.ref ((caOf x_path x_state x_deed x_look x_number x_storm) c)) (.ref ((caOf x_path x_state x_deed x_look x_number x_storm) d)) = some (decide (c = d)) := fun c hc => by
    cases c
    case path => exact eK_path
    case state => exact eK_state
    case deed => exact eK_deed
    case look => exact eK_look
    case number => exact eK_number
    case storm => exact eK_storm
    case text => exact absurd hc (by decide)
  have eV : ∀ c ∈ six, PySem.W.kitOne K (.ref ((caOf x_path x_state x_deed x_look x_number x_storm) c)) (.type "ValueError") = some true := fun c hc => by
    cases c
    case path => exact kv_path
    case state => exact kv_state
    case deed => exact kv_deed
    case look => exact kv_look
    case number => exact kv_number
    case storm => exact kv_storm
    case text => exact absurd hc (by decide)
  have eG : ∀ c ∈ six, mg (nmX c) = some (.ref ((caOf x_path x_state x_deed x_look x_number x_storm) c)) := fun c hc => by
    cases c
    case path => exact mgo g_path
    case state => exact mgo g_state
    case deed => exact mgo g_deed
    case look => exact mgo g_look
    case number => exact mgo g_number
    case storm => exact mgo g_storm
    case text => exact absurd hc (by decide)
  have eX : ∀ c ∈ six, PySem.W.exmOne K (.ref ((caOf x_path x_state x_deed x_look x_number x_storm) c)) (.ref xS) = some true := fun c hc => by
    cases c
    case path => exact ex_path
    case state => exact ex_state
    case deed => exact ex_deed
    case look => exact ex_look
    case number => exact ex_number
    case storm => exact ex_storm
    case text => exact absurd hc (by decide)
  have EA : ExcAll six (caOf x_path x_state x_deed x_look x_number x_storm) K mg := ⟨eC, eKit, eV, eG, mgn b_ValueError, mgn b_isinstance, mgn b_sum, mgn b_int⟩
  have GL : Gl (caOf x_path x_state x_deed x_look x_number x_storm) K w mg := { g_MOST_WORD := ⟨_, mgo n_MOST_WORD⟩, g_MOST_DEEP := ⟨_, mgo n_MOST_DEEP⟩, g_MOST_WORTH_states := ⟨_, mgo n_MOST_WORTH_states⟩, g_MOST_NUMBER := ⟨_, mgo n_MOST_NUMBER⟩, g_MOST_WITHIN := ⟨_, mgo n_MOST_WITHIN⟩, g_SMALL := ⟨_, mgo n_SMALL⟩, s_READING := ⟨⟨_, _, _, _, mgo sg_READING, sl_READING', rfl, rfl, (by show 4 ≤ sizeLine; decide), .cons ⟨_, rfl⟩ (.cons ⟨_, rfl⟩ (.cons ⟨_, rfl⟩ (.cons ⟨_, rfl⟩ (.nil))))⟩⟩, s_TWO := ⟨⟨_, _, _, _, mgo sg_TWO, sl_TWO', rfl, rfl, (by show 5 ≤ sizeLine; decide), .cons ⟨_, rfl⟩ (.cons ⟨_, rfl⟩ (.cons ⟨_, rfl⟩ (.cons ⟨_, rfl⟩ (.cons ⟨_, rfl⟩ (.nil)))))⟩⟩, r_BadPath := ⟨⟨_, _, _, _, PySem.F.excBase_ValueError, q_path⟩, mgo g_path, kp_path, hs_path, ty_path⟩, r_BadState := ⟨⟨_, _, _, _, PySem.F.excBase_ValueError, q_state⟩, mgo g_state, kp_state, hs_state, ty_state⟩, r_BadLook := ⟨⟨_, _, _, _, PySem.F.excBase_ValueError, q_look⟩, mgo g_look, kp_look, hs_look, ty_look⟩, b_isinstance := mgn b_isinstance, b_str := mgn b_str, b_tuple := mgn b_tuple, b_dict := mgn b_dict, b_int := mgn b_int, b_bool := mgn b_bool, b_len := mgn b_len, b_abs := mgn b_abs, b_all := mgn b_all, b_any := mgn b_any, b_sum := mgn b_sum, b_max := mgn b_max, b_min := mgn b_min, b_range := mgn b_range, b_sorted := mgn b_sorted, b_list := mgn b_list }
  have U0 : FunAs K mg "is_word" "is_word" s_is_word ["thing"] := fun_at X G a0 l0 c0 k0 fun _ _ _ _ _ _ us hl => match us, hl with | [_], _ => rfl
  have U1 : FunAs K mg "is_path" "is_path" s_is_path ["thing"] := fun_at X G a1 l1 c1 k1 fun _ _ _ _ _ _ us hl => match us, hl with | [_], _ => rfl
  have U2 : FunAs K mg "need_name" "need_name" s_need_name ["name"] := fun_at X G a2 l2 c2 k2 fun _ _ _ _ _ _ us hl => match us, hl with | [_], _ => rfl
  have U3 : FunAs K mg "is_number" "is_number" s_is_number ["thing", "most"] := fun_at X G a3 l3 c3 k3 fun _ _ _ _ _ _ us hl => match us, hl with | [_, _], _ => rfl
  have U4 : FunAs K mg "is_state" "is_state" s_is_state ["state"] := fun_at X G a4 l4 c4 k4 fun _ _ _ _ _ _ us hl => match us, hl with | [_], _ => rfl
  have U5 : FunAs K mg "need_state" "need_state" s_need_state ["state"] := fun_at X G a5 l5 c5 k5 fun _ _ _ _ _ _ us hl => match us, hl with | [_], _ => rfl
  have U6 : FunAs K mg "need_terms" "need" s_need_terms ["good"] := fun_at X G a6 l6 c6 k6 fun _ _ _ _ _ _ us hl => match us, hl with | [_], _ => rfl
  have U7 : FunAs K mg "need_deep" "need_deep" s_need_deep ["term", "deep"] := fun_at X G a7 l7 c7 k7 fun _ _ _ _ _ _ us hl => match us, hl with | [_, _], _ => rfl
  have U8 : FunAs K mg "need_term" "need_term" s_need_term ["term"] := fun_at X G a8 l8 c8 k8 fun _ _ _ _ _ _ us hl => match us, hl with | [_], _ => rfl
  have U9 : FunAs K mg "looks_in" "looks_in" s_looks_in ["term"] := fun_at X G a9 l9 c9 k9 fun _ _ _ _ _ _ us hl => match us, hl with | [_], _ => rfl
  have U10 : FunAs K mg "need_looks" "need" s_need_looks ["good"] := fun_at X G a10 l10 c10 k10 fun _ _ _ _ _ _ us hl => match us, hl with | [_], _ => rfl
  have U11 : FunAs K mg "worth" "worth" s_worth ["term", "read"] := fun_at X G a11 l11 c11 k11 fun _ _ _ _ _ _ us hl => match us, hl with | [_, _], _ => rfl
  have U12 : FunAs K mg "_law_cell" "_law_cell" s_law_cell ["_law_script", "_law_k"] := fun_at X G a12 l12 c12 k12 fun _ _ _ _ _ _ us hl => match us, hl with | [_, _], _ => rfl
  have U13 : FunAs K mg "_law_drawn" "_law_drawn" s_law_drawn ["_law_cell_here", "_law_k"] := fun_at X G a13 l13 c13 k13 fun _ _ _ _ _ _ us hl => match us, hl with | [_, _], _ => rfl
  have U14 : FunAs K mg "_law_tower" "_law_tower" s_law_tower ["_law_many"] := fun_at X G a14 l14 c14 k14 fun _ _ _ _ _ _ us hl => match us, hl with | [_], _ => rfl
  have U15 : FunAs K mg "_law_none" "_law_none" s_law_none [] := fun_at X G a15 l15 c15 k15 fun _ _ _ _ _ _ us hl => match us, hl with | [], _ => rfl
  have U16 : FunAs K mg "_law_word" "_law_word" s_word ["_law_e"] := fun_at X G a16 l16 c16 k16 fun _ _ _ _ _ _ us hl => match us, hl with | [_], _ => rfl
  have U17 : FunAs K mg "_law_told" "_law_told" s_told ["_law_deed"] := fun_at X G a17 l17 c17 k17 fun _ _ _ _ _ _ us hl => match us, hl with | [_], _ => rfl
  have V0 := mt_at (ps := ["self", "state"]) ma0 ml0 mc0 mk0 mf0 fun _ _ _ _ _ _ us hl => match us, hl with | [_, _], _ => rfl
  have V1 := mt_at (ps := ["self", "name", "term"]) ma1 ml1 mc1 mk1 mf1 fun _ _ _ _ _ _ us hl => match us, hl with | [_, _, _], _ => rfl
  have V2 := mt_at (ps := ["self"]) ma2 ml2 mc2 mk2 mf2 fun _ _ _ _ _ _ us hl => match us, hl with | [_], _ => rfl
  have V3 := mt_at (ps := ["self", "state"]) ma3 ml3 mc3 mk3 mf3 fun _ _ _ _ _ _ us hl => match us, hl with | [_, _], _ => rfl
  have V4 := mt_at (ps := ["self", "name"]) ma4 ml4 mc4 mk4 mf4 fun _ _ _ _ _ _ us hl => match us, hl with | [_, _], _ => rfl
  have V5 := mt_at (ps := ["self", "name"]) ma5 ml5 mc5 mk5 mf5 fun _ _ _ _ _ _ us hl => match us, hl with | [_, _], _ => rfl
  have V6 := mt_at (ps := ["self", "name"]) ma6 ml6 mc6 mk6 mf6 fun _ _ _ _ _ _ us hl => match us, hl with | [_, _], _ => rfl
  have V7 := mt_at (ps := ["self", "name"]) ma7 ml7 mc7 mk7 mf7 fun _ _ _ _ _ _ us hl => match us, hl with | [_, _], _ => rfl
  have V8 := mt_at (ps := ["self", "own", "row"]) ma8 ml8 mc8 mk8 mf8 fun _ _ _ _ _ _ us hl => match us, hl with | [_, _, _], _ => rfl
  have KL : Cls K CL := ⟨CL_pg, CL_hd, CL_po, CL_sa⟩
  have KK : Cls K CK := ⟨CK_pg, CK_hd, CK_po, CK_sa⟩
  have LC : LooksC K CL := ⟨CL_g, KL, CL_n_terms⟩
  have LF : LooksF K CL := ⟨LC, CL_n_now, CL_n_known, CL_n_done⟩
  have LK : KnownF K CK := ⟨KK, CK_n_own, CK_n_row⟩
  have MI : Mk K CL m0 := ⟨CL_mk, ma0, mf0, CL_kp⟩
  have MK : Mk K CK m8 := ⟨CK_mk, ma8, mf8, CK_kp⟩
  let T : Gam := ⟨[(PL, "law.<locals>.<lambda>"), (Pm5, "Looks.work_out.<locals>.read")], fun _ => True, fun _ _ _ _ => trivial⟩
  have BL : ∀ (s : Shared) (u : Value), BindsTo s (PySem.W.fnOf "law" "law" (defArgs s_law) (defBody s_law) (defScope s_law) .none kVL dcL pmL anL (.ref cdL) ctL) ⟨[u], []⟩ [("_law_script", u)] := fun s u => .of_eq rfl
  refine ⟨_, [(cdL, PL), (cdm5, Pm5)], SpD T (caOf x_path x_state x_deed x_look x_number x_storm) K 1 g_law, fun p hp => ?_, fun p hp => ?_, fun p hp => ?_, BL, fun H a ns hl _ ht hs => ?_, fun base XB GB TBs => ?_⟩
  · simp only [List.mem_cons, List.not_mem_nil, or_false] at hp
    rcases hp with rfl | rfl
    · exact tbPL
    · exact tbPm5
  · simp only [List.mem_cons, List.not_mem_nil, or_false] at hp
    rcases hp with rfl | rfl
    · exact nL
    · exact mn5
  · simp only [List.mem_cons, List.not_mem_nil, or_false] at hp
    rcases hp with rfl | rfl
    · exact PySem.W.codeHd_of_K X hL
    · exact PySem.W.codeHd_of_K X mh5
  · refine ⟨rfl, [], [.list (ns.map PyData.int)], ⟨fun a ha => absurd ha (by simp), ⟨fun p hp => ?_, trivial⟩⟩, ?_, ?_⟩
    · have hp : p ∈ [(PL, ("law.<locals>.<lambda>" : Str)), (Pm5, ("Looks.work_out.<locals>.read" : Str))] := hp
      simp only [List.mem_cons, List.not_mem_nil, or_false] at hp
      rcases hp with rfl | rfl
      · exact LamX.TabS.nil (ht (cdL, PL) (by simp))
      · exact LamX.TabS.nil (ht (cdm5, Pm5) (by simp))
    · rw [hide_nil]
      exact .cons (.lst hs (ints_all ns)) .nil
    · rw [law_true ns hl]
      exact fun v H' _ r => rp_bl r
  · have B := TBs (cdL, PL) (by simp)
    have F_is_word := ok_is_word (T := T) (P := PySem.Challenge.rw_lookhouse_k20_terms_refused.prog) (base := base) GL U0 
    have F_is_path := ok_is_path (T := T) (P := PySem.Challenge.rw_lookhouse_k20_terms_refused.prog) (base := base) GL U1 F_is_word
    have F_need_name := ok_need_name (T := T) (P := PySem.Challenge.rw_lookhouse_k20_terms_refused.prog) (base := base) GL U2 F_is_word
    have F_is_number := ok_is_number (T := T) (P := PySem.Challenge.rw_lookhouse_k20_terms_refused.prog) (base := base) GL U3 
    have F_is_state := ok_is_state (T := T) (P := PySem.Challenge.rw_lookhouse_k20_terms_refused.prog) (base := base) GL U4 F_is_path F_is_number
    have F_need_state := ok_need_state (T := T) (P := PySem.Challenge.rw_lookhouse_k20_terms_refused.prog) (base := base) GL U5 F_is_state
    have F_need_terms := ok_need_terms (T := T) (P := PySem.Challenge.rw_lookhouse_k20_terms_refused.prog) (base := base) GL U6 
    have F_need_deep := ok_need_deep (T := T) (P := PySem.Challenge.rw_lookhouse_k20_terms_refused.prog) (base := base) GL U7 F_need_terms F_is_number F_is_path F_is_word 12
    have F_need_term := ok_need_term (T := T) (P := PySem.Challenge.rw_lookhouse_k20_terms_refused.prog) (base := base) GL U8 F_need_deep
    have F_looks_in := ok_looks_in (T := T) (P := PySem.Challenge.rw_lookhouse_k20_terms_refused.prog) (base := base) GL U9  12
    have F_need_looks := ok_need_looks (T := T) (P := PySem.Challenge.rw_lookhouse_k20_terms_refused.prog) (base := base) GL U10 
    have F_law_cell := ok_law_cell (T := T) (P := PySem.Challenge.rw_lookhouse_k20_terms_refused.prog) (base := base) GL U12 
    have F_law_drawn := ok_law_drawn (T := T) (P := PySem.Challenge.rw_lookhouse_k20_terms_refused.prog) (base := base) GL U13 
    have F_law_tower := ok_law_tower (T := T) (P := PySem.Challenge.rw_lookhouse_k20_terms_refused.prog) (base := base) GL U14 
    have F_law_none := ok_law_none (T := T) (P := PySem.Challenge.rw_lookhouse_k20_terms_refused.prog) (base := base) GL U15 F_law_tower
    have M_define := ok_Looks_define (T := T) (P := PySem.Challenge.rw_lookhouse_k20_terms_refused.prog) (base := base) GL LC ⟨⟨_, _, V1.1, V1.2.1, V1.2.2⟩⟩ F_need_name F_need_term F_looks_in F_need_looks
    have M_names := ok_Looks_names (T := T) (P := PySem.Challenge.rw_lookhouse_k20_terms_refused.prog) (base := base) GL LC ⟨⟨_, _, V2.1, V2.2.1, V2.2.2⟩⟩ 
    have M_show := ok_Looks_show (T := T) (P := PySem.Challenge.rw_lookhouse_k20_terms_refused.prog) (base := base) GL LC ⟨⟨_, _, V3.1, V3.2.1, V3.2.2⟩⟩ F_need_state
    have M_value := ok_Looks_value (T := T) (P := PySem.Challenge.rw_lookhouse_k20_terms_refused.prog) (base := base) GL LC ⟨⟨_, _, V6.1, V6.2.1, V6.2.2⟩⟩ F_need_name F_need_looks
    have M_readings := ok_Looks_readings (T := T) (P := PySem.Challenge.rw_lookhouse_k20_terms_refused.prog) (base := base) GL LC ⟨⟨_, _, V7.1, V7.2.1, V7.2.2⟩⟩ F_need_name F_need_looks
    have Fi := ok_init (T := T) (P := PySem.Challenge.rw_lookhouse_k20_terms_refused.prog) (base := base) GL LF V0.1 F_need_state
    have FiX := ok_initX (C := CL) (T := T) (P := PySem.Challenge.rw_lookhouse_k20_terms_refused.prog) (base := base) GL V0.1 F_need_state
    have Fd := ok_define0 (T := T) (P := PySem.Challenge.rw_lookhouse_k20_terms_refused.prog) (base := base) GL LF V1.1 F_need_name F_need_term F_looks_in F_need_looks
    have Fw := fun {f fd} => ok_worth (P := PySem.Challenge.rw_lookhouse_k20_terms_refused.prog) (w := w) (K := K) (mg := mg) (base := base) (f := f) (fd := fd)
    have Fk := ok_kinit (P := PySem.Challenge.rw_lookhouse_k20_terms_refused.prog) (w := w) (mg := mg) (base := base) LK V8.1
    have Ff := ok_fresh (P := PySem.Challenge.rw_lookhouse_k20_terms_refused.prog) (w := w) (mg := mg) (base := base) LF V4.1
    obtain ⟨fw, fdw, FW0, hmw, hbw⟩ := U11.ex
    have Fo := ok_work (T := T) (P := PySem.Challenge.rw_lookhouse_k20_terms_refused.prog) (w := w) (base := base) LF LK ml5 mc5 (TBs (cdm5, Pm5) (by simp)) (by simp [T]) (fun p hp h => by
      simp only [T, List.mem_cons, List.not_mem_nil, or_false] at hp
      rcases hp with rfl | rfl
      · exact absurd h PLm
      · rfl) (Fw FW0) hmw FW0.kp hbw Fk (mgo CK_g) MK V8.2.2
    have Fv := ok_value0 (T := T) (P := PySem.Challenge.rw_lookhouse_k20_terms_refused.prog) (w := w) (base := base) LF LK V6.1 F_need_name F_need_looks Ff V4.2.1 V4.2.2 Fo V5.2.1 V5.2.2
    have DT : Told six T (caOf x_path x_state x_deed x_look x_number x_storm) nmX PySem.Challenge.rw_lookhouse_k20_terms_refused.prog w K mg base 1 "_law_told" "LookError" "_law_word" s_told n_told "_law_deed" "_law_e" :=
      ⟨U17.ex, sc_told, rfl, .inl rfl, rfl, rfl, rfl, ⟨_, _, _, _, _, _, _, _, _, _, rfl⟩, by decide, by decide, ⟨_, mgo gS, eX⟩, by
        obtain ⟨g, fd, FW, hmW, hbW⟩ := U16.ex
        exact ⟨g, fd, ["_law_e"], ok_word FW EA, rfl, hmW, FW.kp, hbW⟩⟩
    refine ok_law GL lL cL DT B (by simp [T]) (fun p hp h => ?_) LF LC MI Fi FiX V0.2.2 V1.2.1 Fd V1.2.2 (mgo CL_g) V6.2.1 Fv V6.2.2 F_law_drawn F_law_none F_need_term M_define M_value M_readings F_law_tower M_names F_looks_in M_show F_law_cell
    simp only [T, List.mem_cons, List.not_mem_nil, or_false] at hp
    rcases hp with rfl | rfl
    · rfl
    · exact absurd h (Ne.symm PLm)
end K20
open PySem PySem.W PyProof.Rows
set_option maxRecDepth 100000 in
set_option maxHeartbeats 40000000 in
theorem PySem.Challenge.cw_lookhouse_k20_terms_refused_holds : PySem.Challenge.rw_lookhouse_k20_terms_refused.Holds := by
  w_on; o_law; k_head; (case hw => w_witness2)
  k_fill
  refine LamX.walk_ofTs (l := PySem.Challenge.rw_lookhouse_k20_terms_refused) (n := 63) (k := 23) (CX := fun w => L2N.CX PySem.Challenge.rw_lookhouse_k20_terms_refused.prog w) (x := "_law_script") rfl (by decide) rfl ⟨rfl, by decide, by decide⟩ (fun w h Y => PySem.W.km_in_of Y) ?F ?S
  case S =>
    intro w H s e s' z
    obtain ⟨_, _, _, _, _, _, _, _, _, _, _, _, q⟩ := z
    exact q
  case F =>
    intro w mg fa h Y KX G hmg
    have hT := PySem.W.km_tabs_of Y
    refine' K20.all_mk (w := w) KX G hmg ?a0 ?l0 ?c0 ?k0 ?a1 ?l1 ?c1 ?k1 ?a2 ?l2 ?c2 ?k2 ?a3 ?l3 ?c3 ?k3 ?a4 ?l4 ?c4 ?k4 ?a5 ?l5 ?c5 ?k5 ?a6 ?l6 ?c6 ?k6 ?a7 ?l7 ?c7 ?k7 ?a8 ?l8 ?c8 ?k8 ?a9 ?l9 ?c9 ?k9 ?a10 ?l10 ?c10 ?k10 ?a11 ?l11 ?c11 ?k11 ?a12 ?l12 ?c12 ?k12 ?a13 ?l13 ?c13 ?k13 ?a14 ?l14 ?c14 ?k14 ?a15 ?l15 ?c15 ?k15 ?a16 ?l16 ?c16 ?k16 ?a17 ?l17 ?c17 ?k17 ?CL_g ?CL_pg ?CL_hd ?CL_po ?CL_sa ?CL_n_now ?CL_n_terms ?CL_n_known ?CL_n_done ?CL_mk ?CL_kp ?CK_g ?CK_pg ?CK_hd ?CK_po ?CK_sa ?CK_n_own ?CK_n_row ?CK_mk ?CK_kp ?ma0 ?ml0 ?mc0 ?mk0 ?mf0 ?ma1 ?ml1 ?mc1 ?mk1 ?mf1 ?ma2 ?ml2 ?mc2 ?mk2 ?mf2 ?ma3 ?ml3 ?mc3 ?mk3 ?mf3 ?ma4 ?ml4 ?mc4 ?mk4 ?mf4 ?ma5 ?ml5 ?mc5 ?mk5 ?mf5 ?mo5 ?me5 ?mh5 ?mn5 ?ma6 ?ml6 ?mc6 ?mk6 ?mf6 ?ma7 ?ml7 ?mc7 ?mk7 ?mf7 ?ma8 ?ml8 ?mc8 ?mk8 ?mf8 ?aL ?lL ?cL ?oL ?eL ?hL ?nL ?gS ?g_path ?q_path ?kp_path ?ty_path ?hg_path ?hk_path ?hs_path ?hd_path ?ha_path ?hm_path ?kv_path ?ex_path ?ki_path_path ?ki_path_state ?ki_path_deed ?ki_path_look ?ki_path_number ?ki_path_storm ?g_state ?q_state ?kp_state ?ty_state ?hg_state ?hk_state ?hs_state ?hd_state ?ha_state ?hm_state ?kv_state ?ex_state ?ki_state_path ?ki_state_state ?ki_state_deed ?ki_state_look ?ki_state_number ?ki_state_storm ?g_deed ?hg_deed ?hk_deed ?hs_deed ?hd_deed ?ha_deed ?hm_deed ?kv_deed ?ex_deed ?ki_deed_path ?ki_deed_state ?ki_deed_deed ?ki_deed_look ?ki_deed_number ?ki_deed_storm ?g_look ?q_look ?kp_look ?ty_look ?hg_look ?hk_look ?hs_look ?hd_look ?ha_look ?hm_look ?kv_look ?ex_look ?ki_look_path ?ki_look_state ?ki_look_deed ?ki_look_look ?ki_look_number ?ki_look_storm ?g_number ?hg_number ?hk_number ?hs_number ?hd_number ?ha_number ?hm_number ?kv_number ?ex_number ?ki_number_path ?ki_number_state ?ki_number_deed ?ki_number_look ?ki_number_number ?ki_number_storm ?g_storm ?hg_storm ?hk_storm ?hs_storm ?hd_storm ?ha_storm ?hm_storm ?kv_storm ?ex_storm ?ki_storm_path ?ki_storm_state ?ki_storm_deed ?ki_storm_look ?ki_storm_number ?ki_storm_storm ?hn ?ht ?n_MOST_WORD ?n_MOST_DEEP ?n_MOST_WORTH_states ?n_MOST_NUMBER ?n_MOST_WITHIN ?n_SMALL ?b_isinstance ?b_str ?b_tuple ?b_dict ?b_int ?b_bool ?b_len ?b_abs ?b_all ?b_any ?b_sum ?b_max ?b_min ?b_range ?b_sorted ?b_list ?b_ValueError ?PLm ?sg_READING ?sl_READING' ?sg_TWO ?sl_TWO' ?tbPL ?tbPm5
    (case a0 => first | k_is | rfl | kernel_rfl)
    (case l0 => first | k_is | rfl | kernel_rfl)
    (case c0 => first | k_is | rfl | kernel_rfl)
    (case k0 => first | k_is | rfl | kernel_rfl)
    (case a1 => first | k_is | rfl | kernel_rfl)
    (case l1 => first | k_is | rfl | kernel_rfl)
    (case c1 => first | k_is | rfl | kernel_rfl)
    (case k1 => first | k_is | rfl | kernel_rfl)
    (case a2 => first | k_is | rfl | kernel_rfl)
    (case l2 => first | k_is | rfl | kernel_rfl)
    (case c2 => first | k_is | rfl | kernel_rfl)
    (case k2 => first | k_is | rfl | kernel_rfl)
    (case a3 => first | k_is | rfl | kernel_rfl)
    (case l3 => first | k_is | rfl | kernel_rfl)
    (case c3 => first | k_is | rfl | kernel_rfl)
    (case k3 => first | k_is | rfl | kernel_rfl)
    (case a4 => first | k_is | rfl | kernel_rfl)
    (case l4 => first | k_is | rfl | kernel_rfl)
    (case c4 => first | k_is | rfl | kernel_rfl)
    (case k4 => first | k_is | rfl | kernel_rfl)
    (case a5 => first | k_is | rfl | kernel_rfl)
    (case l5 => first | k_is | rfl | kernel_rfl)
    (case c5 => first | k_is | rfl | kernel_rfl)
    (case k5 => first | k_is | rfl | kernel_rfl)
    (case a6 => first | k_is | rfl | kernel_rfl)
    (case l6 => first | k_is | rfl | kernel_rfl)
    (case c6 => first | k_is | rfl | kernel_rfl)
    (case k6 => first | k_is | rfl | kernel_rfl)
    (case a7 => first | k_is | rfl | kernel_rfl)
    (case l7 => first | k_is | rfl | kernel_rfl)
    (case c7 => first | k_is | rfl | kernel_rfl)
    (case k7 => first | k_is | rfl | kernel_rfl)
    (case a8 => first | k_is | rfl | kernel_rfl)
    (case l8 => first | k_is | rfl | kernel_rfl)
    (case c8 => first | k_is | rfl | kernel_rfl)
    (case k8 => first | k_is | rfl | kernel_rfl)
    (case a9 => first | k_is | rfl | kernel_rfl)
    (case l9 => first | k_is | rfl | kernel_rfl)
    (case c9 => first | k_is | rfl | kernel_rfl)
    (case k9 => first | k_is | rfl | kernel_rfl)
    (case a10 => first | k_is | rfl | kernel_rfl)
    (case l10 => first | k_is | rfl | kernel_rfl)
    (case c10 => first | k_is | rfl | kernel_rfl)
    (case k10 => first | k_is | rfl | kernel_rfl)
    (case a11 => first | k_is | rfl | kernel_rfl)
    (case l11 => first | k_is | rfl | kernel_rfl)
    (case c11 => first | k_is | rfl | kernel_rfl)
    (case k11 => first | k_is | rfl | kernel_rfl)
    (case a12 => first | k_is | rfl | kernel_rfl)
    (case l12 => first | k_is | rfl | kernel_rfl)
    (case c12 => first | k_is | rfl | kernel_rfl)
    (case k12 => first | k_is | rfl | kernel_rfl)
    (case a13 => first | k_is | rfl | kernel_rfl)
    (case l13 => first | k_is | rfl | kernel_rfl)
    (case c13 => first | k_is | rfl | kernel_rfl)
    (case k13 => first | k_is | rfl | kernel_rfl)
    (case a14 => first | k_is | rfl | kernel_rfl)
    (case l14 => first | k_is | rfl | kernel_rfl)
    (case c14 => first | k_is | rfl | kernel_rfl)
    (case k14 => first | k_is | rfl | kernel_rfl)
    (case a15 => first | k_is | rfl | kernel_rfl)
    (case l15 => first | k_is | rfl | kernel_rfl)
    (case c15 => first | k_is | rfl | kernel_rfl)
    (case k15 => first | k_is | rfl | kernel_rfl)
    (case a16 => first | k_is | rfl | kernel_rfl)
    (case l16 => first | k_is | rfl | kernel_rfl)
    (case c16 => first | k_is | rfl | kernel_rfl)
    (case k16 => first | k_is | rfl | kernel_rfl)
    (case a17 => first | k_is | rfl | kernel_rfl)
    (case l17 => first | k_is | rfl | kernel_rfl)
    (case c17 => first | k_is | rfl | kernel_rfl)
    (case k17 => first | k_is | rfl | kernel_rfl)
    (case CL_g => first | k_is | rfl | kernel_rfl)
    (case CL_pg => first | k_is | rfl | kernel_rfl)
    (case CL_hd => first | k_is | rfl | kernel_rfl)
    (case CL_po => first | k_is | rfl | kernel_rfl)
    (case CL_sa => first | k_is | rfl | kernel_rfl)
    (case CL_n_now => first | k_is | rfl | kernel_rfl)
    (case CL_n_terms => first | k_is | rfl | kernel_rfl)
    (case CL_n_known => first | k_is | rfl | kernel_rfl)
    (case CL_n_done => first | k_is | rfl | kernel_rfl)
    (case CL_mk => first | k_is | rfl | kernel_rfl)
    (case CL_kp => first | k_is | rfl | kernel_rfl)
    (case CK_g => first | k_is | rfl | kernel_rfl)
    (case CK_pg => first | k_is | rfl | kernel_rfl)
    (case CK_hd => first | k_is | rfl | kernel_rfl)
    (case CK_po => first | k_is | rfl | kernel_rfl)
    (case CK_sa => first | k_is | rfl | kernel_rfl)
    (case CK_n_own => first | k_is | rfl | kernel_rfl)
    (case CK_n_row => first | k_is | rfl | kernel_rfl)
    (case CK_mk => first | k_is | rfl | kernel_rfl)
    (case CK_kp => first | k_is | rfl | kernel_rfl)
    (case ma0 => first | k_is | rfl | kernel_rfl)
    (case ml0 => first | k_is | rfl | kernel_rfl)
    (case mc0 => first | k_is | rfl | kernel_rfl)
    (case mk0 => first | k_is | rfl | kernel_rfl)
    (case mf0 => first | k_is | rfl | kernel_rfl)
    (case ma1 => first | k_is | rfl | kernel_rfl)
    (case ml1 => first | k_is | rfl | kernel_rfl)
    (case mc1 => first | k_is | rfl | kernel_rfl)
    (case mk1 => first | k_is | rfl | kernel_rfl)
    (case mf1 => first | k_is | rfl | kernel_rfl)
    (case ma2 => first | k_is | rfl | kernel_rfl)
    (case ml2 => first | k_is | rfl | kernel_rfl)
    (case mc2 => first | k_is | rfl | kernel_rfl)
    (case mk2 => first | k_is | rfl | kernel_rfl)
    (case mf2 => first | k_is | rfl | kernel_rfl)
    (case ma3 => first | k_is | rfl | kernel_rfl)
    (case ml3 => first | k_is | rfl | kernel_rfl)
    (case mc3 => first | k_is | rfl | kernel_rfl)
    (case mk3 => first | k_is | rfl | kernel_rfl)
    (case mf3 => first | k_is | rfl | kernel_rfl)
    (case ma4 => first | k_is | rfl | kernel_rfl)
    (case ml4 => first | k_is | rfl | kernel_rfl)
    (case mc4 => first | k_is | rfl | kernel_rfl)
    (case mk4 => first | k_is | rfl | kernel_rfl)
    (case mf4 => first | k_is | rfl | kernel_rfl)
    (case ma5 => first | k_is | rfl | kernel_rfl)
    (case ml5 => first | k_is | rfl | kernel_rfl)
    (case mc5 => first | k_is | rfl | kernel_rfl)
    (case mk5 => first | k_is | rfl | kernel_rfl)
    (case mf5 => first | k_is | rfl | kernel_rfl)
    (case mo5 => first | k_is | rfl | kernel_rfl)
    (case me5 => first | k_is | rfl | kernel_rfl)
    (case mh5 => first | k_is | rfl | kernel_rfl)
    (case mn5 => first | k_is | rfl | kernel_rfl)
    (case ma6 => first | k_is | rfl | kernel_rfl)
    (case ml6 => first | k_is | rfl | kernel_rfl)
    (case mc6 => first | k_is | rfl | kernel_rfl)
    (case mk6 => first | k_is | rfl | kernel_rfl)
    (case mf6 => first | k_is | rfl | kernel_rfl)
    (case ma7 => first | k_is | rfl | kernel_rfl)
    (case ml7 => first | k_is | rfl | kernel_rfl)
    (case mc7 => first | k_is | rfl | kernel_rfl)
    (case mk7 => first | k_is | rfl | kernel_rfl)
    (case mf7 => first | k_is | rfl | kernel_rfl)
    (case ma8 => first | k_is | rfl | kernel_rfl)
    (case ml8 => first | k_is | rfl | kernel_rfl)
    (case mc8 => first | k_is | rfl | kernel_rfl)
    (case mk8 => first | k_is | rfl | kernel_rfl)
    (case mf8 => first | k_is | rfl | kernel_rfl)
    (case aL => first | k_is | rfl | kernel_rfl)
    (case lL => first | k_is | rfl | kernel_rfl)
    (case cL => first | k_is | rfl | kernel_rfl)
    (case oL => first | k_is | rfl | kernel_rfl)
    (case eL => first | k_is | rfl | kernel_rfl)
    (case hL => first | k_is | rfl | kernel_rfl)
    (case nL => first | k_is | rfl | kernel_rfl)
    (case gS => first | k_is | rfl | kernel_rfl)
    (case g_path => first | k_is | rfl | kernel_rfl)
    (case q_path => first | k_is | rfl | kernel_rfl)
    (case kp_path => first | k_is | rfl | kernel_rfl)
    (case ty_path => first | k_is | rfl | kernel_rfl)
    (case hg_path => first | k_is | rfl | kernel_rfl)
    (case hk_path => first | k_is | rfl | kernel_rfl)
    (case hs_path => first | k_is | rfl | kernel_rfl)
    (case hd_path => first | k_is | rfl | kernel_rfl)
    (case ha_path => first | k_is | rfl | kernel_rfl)
    (case hm_path => first | k_is | rfl | kernel_rfl)
    (case kv_path => first | k_is | rfl | kernel_rfl)
    (case ex_path => first | k_is | rfl | kernel_rfl)
    (case ki_path_path => first | k_is | rfl | kernel_rfl)
    (case ki_path_state => first | k_is | rfl | kernel_rfl)
    (case ki_path_deed => first | k_is | rfl | kernel_rfl)
    (case ki_path_look => first | k_is | rfl | kernel_rfl)
    (case ki_path_number => first | k_is | rfl | kernel_rfl)
    (case ki_path_storm => first | k_is | rfl | kernel_rfl)
    (case g_state => first | k_is | rfl | kernel_rfl)
    (case q_state => first | k_is | rfl | kernel_rfl)
    (case kp_state => first | k_is | rfl | kernel_rfl)
    (case ty_state => first | k_is | rfl | kernel_rfl)
    (case hg_state => first | k_is | rfl | kernel_rfl)
    (case hk_state => first | k_is | rfl | kernel_rfl)
    (case hs_state => first | k_is | rfl | kernel_rfl)
    (case hd_state => first | k_is | rfl | kernel_rfl)
    (case ha_state => first | k_is | rfl | kernel_rfl)
    (case hm_state => first | k_is | rfl | kernel_rfl)
    (case kv_state => first | k_is | rfl | kernel_rfl)
    (case ex_state => first | k_is | rfl | kernel_rfl)
    (case ki_state_path => first | k_is | rfl | kernel_rfl)
    (case ki_state_state => first | k_is | rfl | kernel_rfl)
    (case ki_state_deed => first | k_is | rfl | kernel_rfl)
    (case ki_state_look => first | k_is | rfl | kernel_rfl)
    (case ki_state_number => first | k_is | rfl | kernel_rfl)
    (case ki_state_storm => first | k_is | rfl | kernel_rfl)
    (case g_deed => first | k_is | rfl | kernel_rfl)
    (case hg_deed => first | k_is | rfl | kernel_rfl)
    (case hk_deed => first | k_is | rfl | kernel_rfl)
    (case hs_deed => first | k_is | rfl | kernel_rfl)
    (case hd_deed => first | k_is | rfl | kernel_rfl)
    (case ha_deed => first | k_is | rfl | kernel_rfl)
    (case hm_deed => first | k_is | rfl | kernel_rfl)
    (case kv_deed => first | k_is | rfl | kernel_rfl)
    (case ex_deed => first | k_is | rfl | kernel_rfl)
    (case ki_deed_path => first | k_is | rfl | kernel_rfl)
    (case ki_deed_state => first | k_is | rfl | kernel_rfl)
    (case ki_deed_deed => first | k_is | rfl | kernel_rfl)
    (case ki_deed_look => first | k_is | rfl | kernel_rfl)
    (case ki_deed_number => first | k_is | rfl | kernel_rfl)
    (case ki_deed_storm => first | k_is | rfl | kernel_rfl)
    (case g_look => first | k_is | rfl | kernel_rfl)
    (case q_look => first | k_is | rfl | kernel_rfl)
    (case kp_look => first | k_is | rfl | kernel_rfl)
    (case ty_look => first | k_is | rfl | kernel_rfl)
    (case hg_look => first | k_is | rfl | kernel_rfl)
    (case hk_look => first | k_is | rfl | kernel_rfl)
    (case hs_look => first | k_is | rfl | kernel_rfl)
    (case hd_look => first | k_is | rfl | kernel_rfl)
    (case ha_look => first | k_is | rfl | kernel_rfl)
    (case hm_look => first | k_is | rfl | kernel_rfl)
    (case kv_look => first | k_is | rfl | kernel_rfl)
    (case ex_look => first | k_is | rfl | kernel_rfl)
    (case ki_look_path => first | k_is | rfl | kernel_rfl)
    (case ki_look_state => first | k_is | rfl | kernel_rfl)
    (case ki_look_deed => first | k_is | rfl | kernel_rfl)
    (case ki_look_look => first | k_is | rfl | kernel_rfl)
    (case ki_look_number => first | k_is | rfl | kernel_rfl)
    (case ki_look_storm => first | k_is | rfl | kernel_rfl)
    (case g_number => first | k_is | rfl | kernel_rfl)
    (case hg_number => first | k_is | rfl | kernel_rfl)
    (case hk_number => first | k_is | rfl | kernel_rfl)
    (case hs_number => first | k_is | rfl | kernel_rfl)
    (case hd_number => first | k_is | rfl | kernel_rfl)
    (case ha_number => first | k_is | rfl | kernel_rfl)
    (case hm_number => first | k_is | rfl | kernel_rfl)
    (case kv_number => first | k_is | rfl | kernel_rfl)
    (case ex_number => first | k_is | rfl | kernel_rfl)
    (case ki_number_path => first | k_is | rfl | kernel_rfl)
    (case ki_number_state => first | k_is | rfl | kernel_rfl)
    (case ki_number_deed => first | k_is | rfl | kernel_rfl)
    (case ki_number_look => first | k_is | rfl | kernel_rfl)
    (case ki_number_number => first | k_is | rfl | kernel_rfl)
    (case ki_number_storm => first | k_is | rfl | kernel_rfl)
    (case g_storm => first | k_is | rfl | kernel_rfl)
    (case hg_storm => first | k_is | rfl | kernel_rfl)
    (case hk_storm => first | k_is | rfl | kernel_rfl)
    (case hs_storm => first | k_is | rfl | kernel_rfl)
    (case hd_storm => first | k_is | rfl | kernel_rfl)
    (case ha_storm => first | k_is | rfl | kernel_rfl)
    (case hm_storm => first | k_is | rfl | kernel_rfl)
    (case kv_storm => first | k_is | rfl | kernel_rfl)
    (case ex_storm => first | k_is | rfl | kernel_rfl)
    (case ki_storm_path => first | k_is | rfl | kernel_rfl)
    (case ki_storm_state => first | k_is | rfl | kernel_rfl)
    (case ki_storm_deed => first | k_is | rfl | kernel_rfl)
    (case ki_storm_look => first | k_is | rfl | kernel_rfl)
    (case ki_storm_number => first | k_is | rfl | kernel_rfl)
    (case ki_storm_storm => first | k_is | rfl | kernel_rfl)
    (case hn => first | k_is | rfl | kernel_rfl)
    (case ht => first | k_is | rfl | kernel_rfl)
    (case n_MOST_WORD => first | k_is | rfl | kernel_rfl)
    (case n_MOST_DEEP => first | k_is | rfl | kernel_rfl)
    (case n_MOST_WORTH_states => first | k_is | rfl | kernel_rfl)
    (case n_MOST_NUMBER => first | k_is | rfl | kernel_rfl)
    (case n_MOST_WITHIN => first | k_is | rfl | kernel_rfl)
    (case n_SMALL => first | k_is | rfl | kernel_rfl)
    (case b_isinstance => first | k_is | rfl | kernel_rfl)
    (case b_str => first | k_is | rfl | kernel_rfl)
    (case b_tuple => first | k_is | rfl | kernel_rfl)
    (case b_dict => first | k_is | rfl | kernel_rfl)
    (case b_int => first | k_is | rfl | kernel_rfl)
    (case b_bool => first | k_is | rfl | kernel_rfl)
    (case b_len => first | k_is | rfl | kernel_rfl)
    (case b_abs => first | k_is | rfl | kernel_rfl)
    (case b_all => first | k_is | rfl | kernel_rfl)
    (case b_any => first | k_is | rfl | kernel_rfl)
    (case b_sum => first | k_is | rfl | kernel_rfl)
    (case b_max => first | k_is | rfl | kernel_rfl)
    (case b_min => first | k_is | rfl | kernel_rfl)
    (case b_range => first | k_is | rfl | kernel_rfl)
    (case b_sorted => first | k_is | rfl | kernel_rfl)
    (case b_list => first | k_is | rfl | kernel_rfl)
    (case b_ValueError => first | k_is | rfl | kernel_rfl)
    (case PLm => decide)
    (case sg_READING => first | k_is | rfl | kernel_rfl)
    (case sl_READING' => first | k_is | rfl | kernel_rfl)
    (case sg_TWO => first | k_is | rfl | kernel_rfl)
    (case sl_TWO' => first | k_is | rfl | kernel_rfl)
    (case tbPL => exact hT _ (by k_mem))
    (case tbPm5 => exact hT _ (by k_mem))
