import PyProof.Rows.All
import Wide.All
import OpenK.AllK
import Wide.FinOn
import HandS.ForMost
import HandS.ForExc
import HandS.ExcCtx
import HandS.IsInst
import HandS.Wide
import HandS.TupAny
import HandS.TupMul
import HandS.Lambda
import HandS.HotCalls
import HandS.EndTab
import KE.DataEq
import HandS.ExcIs
import KE.KDictDisplayH
import KE.KDictCopyH
import HandS.More
import HandS.ReplaceLit
import HandS.ReplaceDef
import KE.SortData
import KE.KDictSum
import KE.KEqDict
import HandS.SuiteRaise
import HandS.ReplaceList
import KE.KIntText
import PySem.Challenge.RW_lookhouse_k70_whole_written
set_option Elab.async false
set_option linter.all false
set_option maxRecDepth 100000
set_option maxHeartbeats 4000000
/-! # A layer over deep data: what a def computes as a plain function of PyData -/
namespace IL
open PySem PySem.Spec PyProof.Rows L2

abbrev D := PyData
/-- the refusals -/
inductive XC where
  | path | state | deed | look | number | storm | text
  deriving DecidableEq
/-- how a piece of code ends -/
inductive Res (α : Type) where
  | ok (a : α) | exc (c : XC) | stuck
def Res.bind {α β : Type} : Res α → (α → Res β) → Res β
  | .ok a, k => k a
  | .exc c, _ => .exc c
  | .stuck, _ => .stuck
def ofO {α : Type} : Option α → Res α
  | some a => .ok a
  | none => .stuck
@[simp] theorem bind_ok {α β : Type} (a : α) (k : α → Res β) : (Res.ok a).bind k = k a := rfl
@[simp] theorem bind_exc {α β : Type} (c : XC) (k : α → Res β) : (Res.exc c).bind k = .exc c := rfl
@[simp] theorem bind_stuck {α β : Type} (k : α → Res β) : (Res.stuck).bind k = .stuck := rfl
@[simp] theorem ofO_some {α : Type} (a : α) : ofO (some a) = .ok a := rfl
@[simp] theorem ofO_none {α : Type} : ofO (none : Option α) = .stuck := rfl

/-! ### values and data -/
def kD : Key → D
  | .inl i => .int i
  | .inr x => .str x
/-- the datum of an object of the class Looks: its terms; is nothing worked out yet? -/
def obD (es : List (D × D)) (fresh : Bool) : D := .dict [(.none, .tuple [.dict es, .bool fresh])]
def isOb : D → Bool
  | .dict [(.none, _)] => true
  | _ => false
/-- where its parts lie -/
structure ObAt (K : PySem.W.Frag) (G : Hp) (a t kn dn : Addr) : Prop where
  ex : ∃ C dx n, PySem.W.nsIn K mainGlobals "Looks" = some (some (.ref C)) ∧ G a = some (.ins C dx [("now", .ref n), ("terms", .ref t), ("known", .ref kn), ("done", .ref dn)])
mutual
/-- the value v holds the data d in H -/
inductive Rp (K : PySem.W.Frag) (H : Hp) : V → D → Prop where
  | non : Rp K H .non .none
  | bl (b : Bool) : Rp K H (.bl b) (.bool b)
  | int (i : Int) : Rp K H (.int i) (.int i)
  | str (x : Str) : Rp K H (.str x) (.str x)
  | lst {a : Addr} {xs : List V} {ds : List D} (h : SqL K H a xs) (r : RpAll K H xs ds) : Rp K H (.ref a) (.list ds)
  | tup {a : Addr} {xs : List V} {ds : List D} (h : H a = some (.tup xs)) (r : RpAll K H xs ds) : Rp K H (.ref a) (.tuple ds)
  | dT {a : Addr} {kvs : List (List Key × V)} {es : List (D × D)} (h : Rd H a (.dT kvs)) (r : RpT K H kvs es) : Rp K H (.ref a) (.dict es)
  | dK {a : Addr} {kvs : List (Key × V)} {es : List (D × D)} (h : Rd H a (.dK kvs)) (r : RpK K H kvs es) : Rp K H (.ref a) (.dict es)
  | ob {a t kn dn : Addr} {kvs : List (Key × V)} {es : List (D × D)} {fresh : Bool} (h : ObAt K H a t kn dn) (ht : Rd H t (.dK kvs)) (r : RpK K H kvs es) (hf : fresh = true → Rd H kn (.dK []) ∧ Rd H dn (.lst [])) : Rp K H (.ref a) (obD es fresh)
inductive RpAll (K : PySem.W.Frag) (H : Hp) : List V → List D → Prop where
  | nil : RpAll K H [] []
  | cons {v : V} {vs : List V} {d : D} {ds : List D} (h : Rp K H v d) (r : RpAll K H vs ds) : RpAll K H (v :: vs) (d :: ds)
inductive RpT (K : PySem.W.Frag) (H : Hp) : List (List Key × V) → List (D × D) → Prop where
  | nil : RpT K H [] []
  | cons {k : List Key} {v : V} {kvs : List (List Key × V)} {d : D} {es : List (D × D)} (h : Rp K H v d) (r : RpT K H kvs es) : RpT K H ((k, v) :: kvs) ((.tuple (k.map kD), d) :: es)
inductive RpK (K : PySem.W.Frag) (H : Hp) : List (Key × V) → List (D × D) → Prop where
  | nil : RpK K H [] []
  | cons {k : Key} {v : V} {kvs : List (Key × V)} {d : D} {es : List (D × D)} (h : Rp K H v d) (r : RpK K H kvs es) : RpK K H ((k, v) :: kvs) ((kD k, d) :: es)
end
def isDat : HO → Bool
  | .lst _ => true
  | .tup _ => true
  | .dT _ => true
  | .dK _ => true
  | _ => false
def isTbl : HO → Bool
  | .tbl _ => true
  | _ => false
/-- tuples, instances: read as they stand -/
def rigid : HO → Bool
  | .tup _ => true
  | .ins _ _ _ => true
  | _ => false
theorem isTbl_of_rigid {u : HO} (h : rigid u = true) : isTbl u = false := by cases u <;> first | rfl | cases h
/-- what is read in H is read in H' -/
structure RdLe (H H' : Hp) : Prop where
  rd : ∀ a u, isDat u = true → Rd H a u → Rd H' a u
  tp : ∀ a o, rigid o = true → H a = some o → H' a = some o
section
variable {K : PySem.W.Frag} {H H' : Hp}
theorem sqL_le (l : RdLe H H') {a : Addr} {xs : List V} (h : SqL K H a xs) : SqL K H' a xs := h.imp (fun h => l.rd a _ rfl h) id
mutual
theorem Rp.le (l : RdLe H H') : ∀ {v : V} {d : D}, Rp K H v d → Rp K H' v d
  | _, _, .non => .non
  | _, _, .bl b => .bl b
  | _, _, .int i => .int i
  | _, _, .str x => .str x
  | _, _, .lst h r => .lst (sqL_le l h) (RpAll.le l r)
  | _, _, .tup h r => .tup (l.tp _ _ rfl h) (RpAll.le l r)
  | _, _, .dT h r => .dT (l.rd _ _ rfl h) (RpT.le l r)
  | _, _, .dK h r => .dK (l.rd _ _ rfl h) (RpK.le l r)
  | _, _, .ob h ht r hf => .ob ⟨let ⟨C, dx, n, e1, e2⟩ := h.ex; ⟨C, dx, n, e1, l.tp _ _ rfl e2⟩⟩ (l.rd _ _ rfl ht) (RpK.le l r) fun z => ⟨l.rd _ _ rfl (hf z).1, l.rd _ _ rfl (hf z).2⟩
theorem RpAll.le (l : RdLe H H') : ∀ {vs : List V} {ds : List D}, RpAll K H vs ds → RpAll K H' vs ds
  | _, _, .nil => .nil
  | _, _, .cons h r => .cons (Rp.le l h) (RpAll.le l r)
theorem RpT.le (l : RdLe H H') : ∀ {vs : List (List Key × V)} {ds : List (D × D)}, RpT K H vs ds → RpT K H' vs ds
  | _, _, .nil => .nil
  | _, _, .cons h r => .cons (Rp.le l h) (RpT.le l r)
theorem RpK.le (l : RdLe H H') : ∀ {vs : List (Key × V)} {ds : List (D × D)}, RpK K H vs ds → RpK K H' vs ds
  | _, _, .nil => .nil
  | _, _, .cons h r => .cons (Rp.le l h) (RpK.le l r)
end
theorem RpAll.length : ∀ {vs : List V} {ds : List D}, RpAll K H vs ds → vs.length = ds.length
  | _, _, .nil => rfl
  | _, _, .cons _ r => congrArg (· + 1) (RpAll.length r)
theorem RpAll.get : ∀ {vs : List V} {ds : List D} {i : Nat} {d : D}, RpAll K H vs ds → ds[i]? = some d → ∃ v, vs[i]? = some v ∧ Rp K H v d
  | _, _, _, _, .nil, e => by simp at e
  | _, _, 0, _, .cons h _, e => by simp at e; subst e; exact ⟨_, rfl, h⟩
  | _, _, i + 1, _, .cons _ r, e => by
    obtain ⟨v, h1, h2⟩ := RpAll.get (i := i) r (by simpa using e)
    exact ⟨v, by simpa using h1, h2⟩
theorem RpAll.app : ∀ {vs ws : List V} {ds es : List D}, RpAll K H vs ds → RpAll K H ws es → RpAll K H (vs ++ ws) (ds ++ es)
  | _, _, _, _, .nil, s => s
  | _, _, _, _, .cons h r, s => .cons h (RpAll.app r s)
theorem RpAll.take : ∀ {vs : List V} {ds : List D} (n : Nat), RpAll K H vs ds → RpAll K H (vs.take n) (ds.take n)
  | _, _, 0, _ => by simp only [List.take_zero]; exact .nil
  | _, _, _ + 1, .nil => .nil
  | _, _, n + 1, .cons h r => .cons h (RpAll.take n r)
theorem RpAll.drop : ∀ {vs : List V} {ds : List D} (n : Nat), RpAll K H vs ds → RpAll K H (vs.drop n) (ds.drop n)
  | _, _, 0, r => r
  | _, _, _ + 1, .nil => .nil
  | _, _, n + 1, .cons _ r => RpAll.drop n r
end

/-- what a name may own -/
def isOwn : HO → Bool
  | .lst _ => true
  | .dT _ => true
  | .dK _ => true
  | .frz _ _ => true
  | .ins _ _ _ => true
  | _ => false
theorem isTbl_of_own {u : HO} (h : isOwn u = true) : isTbl u = false := by cases u <;> first | rfl | cases h
/-! ### how the heap goes on -/
/-- what nothing here changes: no list, dict, set, table -/
def fixO : HO → Bool
  | .lst _ => false
  | .dT _ => false
  | .dK _ => false
  | .set _ _ => false
  | .frz _ _ => false
  | .tbl _ => false
  | .ins _ _ _ => false
  | _ => true
/-- the tables of code objects; what else is known of the heap, of objects that nothing here changes -/
structure Gam where
  tabs : List (Addr × Str)
  inv : Hp → Prop
  mono : ∀ H H' : Hp, (∀ b o, H b = some o → fixO o = true → H' b = some o) → inv H → inv H'
/-- the tables and the rest -/
structure TabC (T : Gam) (H : Hp) : Prop where
  at_ : LamX.Tabs T.tabs H
  inv : T.inv H
/-- all but tables stays; what is free was free; the tables told in T stay told -/
structure Pe (T : Gam) (H H' : Hp) : Prop where
  st : ∀ b o, H b = some o → isTbl o = false → H' b = some o
  fr : ∀ b, H' b = none → H b = none
  tb : TabC T H → TabC T H'
def hide (S : List Addr) (H : Hp) : Hp := fun a => if a ∈ S then none else H a
def LiveO (S : List Addr) (H : Hp) : Prop := ∀ a ∈ S, ∃ o, H a = some o ∧ isOwn o = true
/-- what S names is owned; the tables are those of T -/
structure Live (T : Gam) (S : List Addr) (H : Hp) : Prop where
  own : LiveO S H
  tb : TabC T H
section
variable {T : Gam} {K : PySem.W.Frag} {S : List Addr} {H H1 H2 : Hp} {p : Addr} {o : HO}
theorem Pe.refl : Pe T H H := ⟨fun _ _ h _ => h, fun _ h => h, id⟩
theorem Pe.trans (a : Pe T H H1) (b : Pe T H1 H2) : Pe T H H2 := ⟨fun c o h n => b.st c o (a.st c o h n) n, fun c h => a.fr c (b.fr c h), fun t => b.tb (a.tb t)⟩
theorem Pe.ex (h : ∀ b o, H b = some o → H1 b = some o) : Pe T H H1 := by
  refine ⟨fun b o e _ => h b o e, fun b e => ?_, fun t => ⟨LamX.Tabs.ext t.at_ h, T.mono H H1 (fun b o e _ => h b o e) t.inv⟩⟩
  cases q : H b with
  | none => rfl
  | some o => rw [h b o q] at e; cases e
theorem Pe.new (h : H p = none) (_ho : isTbl o = false := by rfl) : Pe T H (upd H p o) := .ex fun b u e => by rw [upd_ne (ne_of_none e h)]; exact e
/-- an object that may change, no table and no code object, becomes another -/
theorem TabC.upd {w v : HO} (t : TabC T H) (h : H p = some w) (h1 : isTbl w = false) (h2 : fixO w = false) : TabC T (upd H p v) := by
  refine ⟨fun z hz => ?_, T.mono H _ (fun b o e f => ?_) t.inv⟩
  · obtain ⟨ps, e1, e2, e3⟩ := t.at_ z hz
    have n1 : z.1 ≠ p := fun e => by
      rw [e, h] at e1
      cases e1
      cases h1
    refine ⟨ps, (upd_ne n1).trans e1, e2, fun pos cv hc => ?_⟩
    obtain ⟨c, q1, q2⟩ := e3 pos cv hc
    have n2 : c ≠ p := fun e => by
      rw [e, h] at q2
      rw [Option.some.inj q2] at h2
      cases h2
    exact ⟨c, q1, (upd_ne n2).trans q2⟩
  · have n : b ≠ p := fun z => by
      rw [z, h] at e
      rw [Option.some.inj e, f] at h2
      cases h2
    exact (upd_ne n).trans e
theorem fix_of_own {u : HO} (h : isOwn u = true) : fixO u = false := by cases u <;> first | rfl | cases h
theorem TabC.hide (t : TabC T H) (h : LiveO S H) : TabC T (hide S H) := by
  have nn : ∀ {a : Addr} {o : HO}, H a = some o → isOwn o = false → a ∉ S := fun {a o} e n z => by
    obtain ⟨u, h1, h2⟩ := h a z
    rw [e] at h1
    cases h1
    rw [n] at h2
    cases h2
  have hin : ∀ {a : Addr} {o : HO}, H a = some o → isOwn o = false → IL.hide S H a = some o := fun {a o} e n => (if_neg (nn e n)).trans e
  refine ⟨fun z hz => ?_, T.mono H _ (fun b o e f => ?_) t.inv⟩
  · obtain ⟨ps, e1, e2, e3⟩ := t.at_ z hz
    refine ⟨ps, hin e1 rfl, e2, fun pos cv hc => ?_⟩
    obtain ⟨c, q1, q2⟩ := e3 pos cv hc
    exact ⟨c, q1, hin q2 rfl⟩
  · refine hin e ?_
    cases o <;> first | rfl | cases f
theorem TabC.unhide (t : TabC T (IL.hide S H)) (h : LiveO S H) : TabC T H := by
  have out : ∀ {a : Addr} {o : HO}, IL.hide S H a = some o → H a = some o := fun {a o} e => by
    unfold IL.hide at e
    split at e
    · cases e
    · exact e
  refine ⟨fun z hz => ?_, T.mono _ H (fun b o e _ => out e) t.inv⟩
  obtain ⟨ps, e1, e2, e3⟩ := t.at_ z hz
  refine ⟨ps, out e1, e2, fun pos cv hc => ?_⟩
  obtain ⟨c, q1, q2⟩ := e3 pos cv hc
  exact ⟨c, q1, out q2⟩
theorem hide_in (h : p ∉ S) : hide S H p = H p := if_neg h
theorem hide_some (h : hide S H p = some o) : p ∉ S ∧ H p = some o := by
  unfold hide at h
  split at h
  · cases h
  · exact ⟨by assumption, h⟩
theorem hide_nil : hide [] H = H := by funext a; exact if_neg (by simp)
theorem LiveO.le (l : LiveO S H) (p : Pe T H H1) : LiveO S H1 := fun a ha => let ⟨o, h1, h2⟩ := l a ha; ⟨o, p.st a o h1 (isTbl_of_own h2), h2⟩
theorem Live.le (l : Live T S H) (p : Pe T H H1) : Live T S H1 := ⟨l.own.le p, p.tb l.tb⟩
theorem LiveO.no (l : LiveO S H) (h : H p = none) : p ∉ S := fun hp => by
  obtain ⟨o, e, _⟩ := l p hp
  rw [h] at e; cases e
theorem LiveO.tup (l : LiveO S H) {xs : List V} (h : H p = some (.tup xs)) : p ∉ S := fun hp => by
  obtain ⟨o, e, q⟩ := l p hp
  rw [h] at e; cases e; cases q
theorem Live.no (l : Live T S H) (h : H p = none) : p ∉ S := l.own.no h
theorem Live.tup (l : Live T S H) {xs : List V} (h : H p = some (.tup xs)) : p ∉ S := l.own.tup h
theorem isTbl_of_rd {u : HO} (h : isDat u = true) : isTbl u = false := by cases u <;> first | rfl | cases h
theorem Pe.rd (x : Pe T H H1) : RdLe (hide S H) (hide S H1) := by
  refine ⟨fun a u hu h => ?_, fun a xs hx h => let ⟨h1, h2⟩ := hide_some h; (hide_in h1).trans (x.st a _ h2 (isTbl_of_rigid hx))⟩
  rcases h with h | ⟨ob, h⟩
  · obtain ⟨h1, h2⟩ := hide_some h
    exact .inl ((hide_in h1).trans (x.st a u h2 (isTbl_of_rd hu)))
  · obtain ⟨h1, h2⟩ := hide_some h
    exact .inr ⟨ob, (hide_in h1).trans (x.st a _ h2 rfl)⟩
theorem Live.new (l : Live T S H) (h : H p = none) : hide S (upd H p o) p = some o := (hide_in (l.no h)).trans upd_same
/-- less is hidden -/
theorem hide_le {S' : List Addr} (h : ∀ a ∈ S', a ∈ S) : RdLe (hide S H) (hide S' H) := by
  refine ⟨fun a u _ r => ?_, fun a xs _ r => let ⟨h1, h2⟩ := hide_some r; (hide_in fun z => h1 (h a z)).trans h2⟩
  rcases r with r | ⟨ob, r⟩
  · obtain ⟨h1, h2⟩ := hide_some r
    exact .inl ((hide_in fun z => h1 (h a z)).trans h2)
  · obtain ⟨h1, h2⟩ := hide_some r
    exact .inr ⟨ob, (hide_in fun z => h1 (h a z)).trans h2⟩
theorem rd_hide {a : Addr} {u : HO} (r : Rd (hide S H) a u) : Rd H a u := r.imp (fun h => (hide_some h).2) fun ⟨o, h⟩ => ⟨o, (hide_some h).2⟩
theorem sqL_hide {a : Addr} {xs : List V} (h : SqL K (hide S H) a xs) : SqL K H a xs := h.imp rd_hide id
theorem tup_hide {a : Addr} {xs : List V} (h : hide S H a = some (.tup xs)) : SqT K H a xs := .inl (.inl (hide_some h).2)
end

/-! ### ends, expressions -/
abbrev Env := List (Option D)
abbrev Ev := Env → Res D
structure RelE (K : PySem.W.Frag) (G : Hp) (env : Env) (σ : L2.St) : Prop where
  len : env.length = σ.length
  at_ : ∀ (i : Nat) (d : D), env[i]? = some (some d) → ∃ v : V, σ[i]? = some (some v) ∧ Rp K G v d
def Fin {α β : Type} (T : Gam) (ca : XC → Addr) (R : Hp → β → α → Prop) (W : WX) (σ : L2.St) (H : Hp) (r : Res α) (Q : β → Hp → Prop) : Prop :=
  match r with
  | .ok a => ∀ b H', Pe T H H' → R H' b a → Q b H'
  | .exc c => ∀ H', Pe T H H' → W (.ref (ca c)) none σ H'
  | .stuck => False
def Rv (K : PySem.W.Frag) (S : List Addr) : Hp → V → D → Prop := fun H v d => Rp K (hide S H) v d
def Ra (K : PySem.W.Frag) (S : List Addr) : Hp → List V → List D → Prop := fun H v d => RpAll K (hide S H) v d
def Rb : Hp → Bool → Bool → Prop := fun _ b c => b = c
section
variable {T : Gam} {ca : XC → Addr} {K : PySem.W.Frag} {S : List Addr} {H H1 H2 : Hp} {W : WX} {σ : L2.St} {α β γ δ : Type} {R : Hp → β → α → Prop} {R' : Hp → δ → γ → Prop} {Q : β → Hp → Prop} {Q' : δ → Hp → Prop}
theorem RelE.le {env : Env} (r : RelE K (hide S H) env σ) (p : Pe T H H1) : RelE K (hide S H1) env σ := ⟨r.len, fun i d e => let ⟨v, h1, h2⟩ := r.at_ i d e; ⟨v, h1, h2.le p.rd⟩⟩
theorem Fin.le {r : Res α} (f : Fin T ca R W σ H r Q) (p : Pe T H H1) : Fin T ca R W σ H1 r Q := by
  cases r with
  | ok a => exact fun b H' q rr => f b H' (p.trans q) rr
  | exc c => exact fun H' q => f H' (p.trans q)
  | stuck => exact f
theorem Fin.bind {r : Res γ} {k : γ → Res α} (f : Fin T ca R W σ H (r.bind k) Q) (h : ∀ d v H1, r = .ok d → Pe T H H1 → R' H1 v d → Fin T ca R W σ H1 (k d) Q → Q' v H1) : Fin T ca R' W σ H r Q' := by
  cases r with
  | ok d => exact fun v H1 p rr => h d v H1 rfl p rr (Fin.le (r := k d) f p)
  | exc c => exact f
  | stuck => exact f
theorem Fin.some {a : Option α} (f : Fin T ca R W σ H (ofO a) Q) : ∃ z, a = some z ∧ ∀ b H', Pe T H H' → R H' b z → Q b H' := by
  cases a with
  | none => exact False.elim f
  | some z => exact ⟨z, rfl, f⟩
theorem Fin.imp {r : Res α} {Q2 : β → Hp → Prop} (f : Fin T ca R W σ H r Q) (h : ∀ b H', Pe T H H' → Q b H' → Q2 b H') : Fin T ca R W σ H r Q2 := by
  cases r with
  | ok a => exact fun b H' p rr => h b H' p (f b H' p rr)
  | exc c => exact f
  | stuck => exact f
end
def tI (T : Gam) (ca : XC → Addr) (K : PySem.W.Frag) (W : WX) (m : Ev) : TE := fun σ H Q => ∃ S env, Live T S H ∧ RelE K (hide S H) env σ ∧ Fin T ca (Rv K S) W σ H (m env) Q
def tIT (T : Gam) (ca : XC → Addr) (K : PySem.W.Frag) (W : WX) (m : Env → Res Bool) : TT := fun σ H Q => ∃ S env, Live T S H ∧ RelE K (hide S H) env σ ∧ Fin T ca Rb W σ H (m env) Q
def tIA (T : Gam) (ca : XC → Addr) (K : PySem.W.Frag) (W : WX) (m : Env → Res (List D)) : TA := fun σ H Q => ∃ S env, Live T S H ∧ RelE K (hide S H) env σ ∧ Fin T ca (Ra K S) W σ H (m env) Q
structure IE (T : Gam) (ca : XC → Addr) (X : Cx) (W : WX) (e : Expr) (m : Ev) : Prop where
  pe : PE X e (tI T ca X.K W m)
structure IT (T : Gam) (ca : XC → Addr) (X : Cx) (W : WX) (e : Expr) (m : Env → Res Bool) : Prop where
  pt : PT X e (tIT T ca X.K W m)
structure IW (T : Gam) (ca : XC → Addr) (X : Cx) (W : WX) (e : Expr) (m : Env → Res Bool) : Prop where
  pw : PW X e (tIT T ca X.K W m)
structure IA (T : Gam) (ca : XC → Addr) (X : Cx) (W : WX) (es : List Expr) (m : Env → Res (List D)) : Prop where
  pa : PA X es (tIA T ca X.K W m)
section
variable {X : Cx} {e : Expr} {es : List Expr}
theorem pe_imp {t t' : TE} (h : PE X e t) (i : ∀ σ H Q, t' σ H Q → t σ H Q) : PE X e t' := ⟨fun pins s σ H Q I q => h.run pins s σ H Q I (i σ H Q q)⟩
theorem pt_imp {t t' : TT} (h : PT X e t) (i : ∀ σ H Q, t' σ H Q → t σ H Q) : PT X e t' := ⟨fun pins s σ H Q I q => h.run pins s σ H Q I (i σ H Q q)⟩
theorem pw_imp {t t' : TT} (h : PW X e t) (i : ∀ σ H Q, t' σ H Q → t σ H Q) : PW X e t' := ⟨fun w pins s σ H Q I q => h.run w pins s σ H Q I (i σ H Q q)⟩
theorem pa_imp {t t' : TA} (h : PA X es t) (i : ∀ σ H Q, t' σ H Q → t σ H Q) : PA X es t' := ⟨fun pos pins s σ H Q I q => h.run pos pins s σ H Q I (i σ H Q q)⟩
end
end IL
/-! ### rules for expressions -/
namespace IL
open PySem PySem.Spec PyProof.Rows L2
/-- from the end wanted of the pure answer z to what a rule wants -/
abbrev Wants (T : Gam) (K : PySem.W.Frag) (S : List Addr) (H : Hp) (z : D) (Q : VK) : Prop := ∀ v H', Pe T H H' → Rp K (hide S H') v z → Q v H'
def Imp1 (T : Gam) (K : PySem.W.Frag) (r : V → Hp → VK → Prop) (g : D → Option D) : Prop :=
  ∀ (S : List Addr) (x : V) (d z : D) (H : Hp) (Q : VK), Live T S H → Rp K (hide S H) x d → g d = some z → Wants T K S H z Q → r x H Q
def Imp2 (T : Gam) (K : PySem.W.Frag) (r : R2) (g : D → D → Option D) : Prop :=
  ∀ (S : List Addr) (x y : V) (d e z : D) (H : Hp) (Q : VK), Live T S H → Rp K (hide S H) x d → Rp K (hide S H) y e → g d e = some z → Wants T K S H z Q → r x y H Q
def ImpN (T : Gam) (K : PySem.W.Frag) (r : List V → Hp → VK → Prop) (g : List D → Option D) : Prop :=
  ∀ (S : List Addr) (xs : List V) (ds : List D) (z : D) (H : Hp) (Q : VK), Live T S H → RpAll K (hide S H) xs ds → g ds = some z → Wants T K S H z Q → r xs H Q
/-! ### what a value that holds a datum is -/
section
variable {T : Gam} {K : PySem.W.Frag} {G : Hp} {v : V} {S : List Addr} {H : Hp}
theorem rp_int {i : Int} (h : Rp K G v (.int i)) : v = .int i := by cases h; rfl
theorem rp_str {x : Str} (h : Rp K G v (.str x)) : v = .str x := by cases h; rfl
theorem rp_bl {b : Bool} (h : Rp K G v (.bool b)) : v = .bl b := by cases h; rfl
theorem rp_non (h : Rp K G v .none) : v = .non := by cases h; rfl
theorem rp_lst {ds : List D} (h : Rp K G v (.list ds)) : ∃ a xs, v = .ref a ∧ SqL K G a xs ∧ RpAll K G xs ds := by
  cases h with
  | lst h r => exact ⟨_, _, rfl, h, r⟩
theorem rp_tup {ds : List D} (h : Rp K G v (.tuple ds)) : ∃ a xs, v = .ref a ∧ G a = some (.tup xs) ∧ RpAll K G xs ds := by
  cases h with
  | tup h r => exact ⟨_, _, rfl, h, r⟩
theorem Wants.int {i : Int} {Q : VK} (w : Wants T K S H (.int i) Q) : Q (.int i) H := w _ _ .refl (.int i)
theorem Wants.bl {i : Bool} {Q : VK} (w : Wants T K S H (.bool i) Q) : Q (.bl i) H := w _ _ .refl (.bl i)
theorem Wants.str {i : Str} {Q : VK} (w : Wants T K S H (.str i) Q) : Q (.str i) H := w _ _ .refl (.str i)
theorem Wants.non {Q : VK} (w : Wants T K S H .none Q) : Q .non H := w _ _ .refl .non
theorem Wants.same {d : D} {Q : VK} (w : Wants T K S H d Q) (h : Rp K (hide S H) v d) : Q v H := w _ _ .refl h
theorem Wants.nlst {xs : List V} {ds : List D} {Q : VK} (w : Wants T K S H (.list ds) Q) (lv : Live T S H) (r : RpAll K (hide S H) xs ds) : ∀ p, H p = none → Q (.ref p) (upd H p (.lst xs)) := fun p hp =>
  w _ _ (.new hp) (.lst (.inl (.inl (lv.new hp))) (RpAll.le (Pe.rd (T := T) (.new hp)) r))
theorem Wants.ntup {xs : List V} {ds : List D} {Q : VK} (w : Wants T K S H (.tuple ds) Q) (lv : Live T S H) (r : RpAll K (hide S H) xs ds) : ∀ p, H p = none → Q (.ref p) (upd H p (.tup xs)) := fun p hp =>
  w _ _ (.new hp) (.tup (lv.new hp) (RpAll.le (Pe.rd (T := T) (.new hp)) r))
end

/-! ### the data's operations -/
def big (n : Nat) : Bool := decide (n ≤ 1000000)
theorem big_ok {n : Nat} (h : big n = true) : n ≤ sizeLine := Nat.le_trans (of_decide_eq_true h) (by decide)
def gAdd : D → D → Option D
  | .int i, .int j => some (.int (i + j))
  | .str x, .str y => if big (x.length + y.length) = true then some (.str (x ++ y)) else none
  | .list xs, .list ys => if big (xs.length + ys.length) = true then some (.list (xs ++ ys)) else none
  | .tuple xs, .tuple ys => if big (xs.length + ys.length) = true then some (.tuple (xs ++ ys)) else none
  | _, _ => none
def gSub : D → D → Option D
  | .int i, .int j => some (.int (i - j))
  | _, _ => none
def mulOk (i j : Int) : Bool := (decide (-(2 ^ 64) < i) && decide (i < 2 ^ 64)) || (decide (-(2 ^ 64) < j) && decide (j < 2 ^ 64)) || (decide (i.natAbs < 2 ^ 400) && decide (j.natAbs < 2 ^ 400))
def gMul : D → D → Option D
  | .int i, .int j => if mulOk i j = true then some (.int (i * j)) else none
  | .tuple xs, .int k => if decide (xs ≠ []) && decide (2 ≤ k) && decide (k ≤ 1000) && decide (xs.length ≤ 1000) = true then some (.tuple (List.replicate k.toNat xs).flatten) else none
  | _, _ => none
def gMod : D → D → Option D
  | .int i, .int j => if decide (0 < j) = true then some (.int (i % j)) else none
  | _, _ => none
def gDiv : D → D → Option D
  | .int i, .int j => if decide (0 < j) && decide (j.natAbs < 2 ^ 400) = true then some (.int (i / j)) else none
  | _, _ => none
def gPow : D → D → Option D
  | .int i, .int j => if decide (0 ≤ j) && decide (j ≤ 1000000) && decide (i.natAbs < 2 ^ 64) = true then some (.int (i ^ j.toNat)) else none
  | _, _ => none
def gNeg : D → Option D
  | .int i => some (.int (-i))
  | _ => none
def gEqB (d e : D) : Option Bool := if d.plain && e.plain && (decide (d.depth ≤ 60) || decide (e.depth ≤ 60)) = true then some (d.eqv e) else none
def gEq (d e : D) : Option D := (gEqB d e).map .bool
def gNe (d e : D) : Option D := (gEqB d e).map fun b => .bool (!b)
def gLt : D → D → Option D
  | .int i, .int j => some (.bool (decide (i < j)))
  | _, _ => none
def gLe : D → D → Option D
  | .int i, .int j => some (.bool (decide (i ≤ j)))
  | _, _ => none
def gGt : D → D → Option D
  | .int i, .int j => some (.bool (decide (j < i)))
  | _, _ => none
/-- one sign in a text -/
def gInS : D → D → Option D
  | .str x, .str z => if decide (x.cps.size = 1) = true then some (.bool (decide (x.cps.toList.headD 0 ∈ z.cps.toList))) else none
  | _, _ => none
def gIsN (d _ : D) : Option D := some (.bool (match d with | .none => true | _ => false))
def gNotN (d _ : D) : Option D := some (.bool (match d with | .none => false | _ => true))
/-- an item of a list, a tuple, a text -/
def gIx : D → D → Option D
  | .list xs, .int i => atI xs i
  | .tuple xs, .int i => atI xs i
  | .str z, .int i => if big z.length = true then (atI z.cps.toList i).map fun c => .str ⟨#[c]⟩ else none
  | _, _ => none
def cutL (xs : List D) (lo hi : Option Int) : List D := (xs.drop (HT.sIx xs.length 0 lo)).take (HT.sIx xs.length xs.length hi - HT.sIx xs.length 0 lo)
def gSl : D → Option Int → Option Int → Option D
  | .list xs, lo, hi => some (.list (cutL xs lo hi))
  | .tuple xs, lo, hi => some (.tuple (cutL xs lo hi))
  | .str z, lo, hi => if big z.length = true then some (.str (cutS z lo hi)) else none
  | _, _, _ => none
def gAbs : List D → Option D
  | [.int i] => some (.int (if i < 0 then -i else i))
  | _ => none
def gLen : List D → Option D
  | [.list xs] => some (.int xs.length)
  | [.tuple xs] => some (.int xs.length)
  | [.str z] => if big z.length = true then some (.int z.length) else none
  | _ => none
def boolsOf : List D → Option (List Bool)
  | [] => some []
  | .bool b :: r => (boolsOf r).map (b :: ·)
  | _ => none
def intsOf : List D → Option (List Int)
  | [] => some []
  | .int b :: r => (intsOf r).map (b :: ·)
  | _ => none
def gAll : List D → Option D
  | [.list xs] => (boolsOf xs).map fun bs => .bool (bs.all id)
  | _ => none
def gAny : List D → Option D
  | [.list xs] => (boolsOf xs).map fun bs => .bool (bs.any id)
  | _ => none
def gSum : List D → Option D
  | [.list xs] => (intsOf xs).map fun bs => .int bs.sum
  | _ => none
def gInt : List D → Option D
  | [.int i] => some (.int i)
  | [.bool b] => some (.int (if b then 1 else 0))
  | _ => none
def gMax2 : List D → Option D
  | [.int i, .int j] => some (.int (if j > i then j else i))
  | _ => none
def gMin2 : List D → Option D
  | [.int i, .int j] => some (.int (if j < i then j else i))
  | _ => none
def gTupOf : List D → Option D
  | [.list xs] => some (.tuple xs)
  | [.tuple xs] => some (.tuple xs)
  | _ => none
def gListOf : List D → Option D
  | [.list xs] => some (.list xs)
  | [.tuple xs] => some (.list xs)
  | _ => none
/-! ### .. are what the rules ask -/
section
variable {T : Gam} {X : Cx}
theorem mem_hd {x : Str} (h : x.cps.size = 1) : x = ⟨#[x.cps.toList.headD 0]⟩ := by
  obtain ⟨⟨l⟩⟩ := x
  match l, h with
  | [c], _ => rfl
/-- a list + a list, wherever they stand -/
def rCatL (K : PySem.W.Frag) : R2 := fun x y H Q => ∃ a b xs ys, x = .ref a ∧ y = .ref b ∧ SqL K H a xs ∧ SqL K H b ys ∧ xs.length + ys.length ≤ sizeLine ∧ ∀ p, H p = none → Q (.ref p) (upd H p (.lst (xs ++ ys)))
theorem op_catL : OpR X (binaryOp .Add) (rCatL X.K) := by
  intro pins s σ H x y v u Q I rx ry h
  obtain ⟨a, b, xs, ys, rfl, rfl, ha, hb, hz, q⟩ := h
  cases rx
  cases ry
  obtain ⟨i1, r1, ⟨⟨c1, d1, t1, l1⟩, n1, e1, k1, k2, k3⟩, _⟩ := I.list ha
  obtain ⟨i2, r2, ⟨⟨c2, d2, t2, l2⟩, n2, e2, m1, m2, m3⟩, _⟩ := I.list hb
  simp only at k1 k2 k3 m1 m2 m3
  subst k1 k2 k3 m1 m2 m3
  have q1 := r1.length
  have q2 := r2.length
  have ea : i1.toArray ++ i2.toArray = (i1 ++ i2).toArray := by simp
  refine concat_meets (S := _) ⟨_, e1, rfl⟩ ⟨_, e2, rfl⟩ noFill_list_add seq_list_add PySem.F.slot_list_add PySem.F.entry_list_add (PySem.F.args_list_add_2 _ _) (list_addW a b i1.toArray i2.toArray n1 n2 none none l1 l2 (by rw [List.size_toArray, List.size_toArray]; omega)) ⟨e1, e2, ?_⟩
  rw [ea]
  exact ⟨.ref _, _, I.lnew (t' := s.toks) (r1.append r2) (by rw [List.length_append]; omega), rfl, q _ I.fresh⟩
theorem imp_add : Imp2 T X.K (fun x y H Q => (rI0 (fun i j => .int (i + j)) x y H Q ∨ (∃ i j, x = .str i ∧ y = .str j ∧ i.length + j.length ≤ sizeLine ∧ Q (.str (i ++ j)) H)) ∨ (rCatL X.K x y H Q ∨ rCatA X.K x y H Q)) gAdd := by
  intro S x y d e z H Q lv rx ry g w
  unfold gAdd at g
  split at g
  · cases rp_int rx; cases rp_int ry; cases g
    exact .inl (.inl ⟨_, _, rfl, rfl, w.int⟩)
  · cases rp_str rx; cases rp_str ry
    split at g
    · cases g
      exact .inl (.inr ⟨_, _, rfl, rfl, big_ok (by assumption), w.str⟩)
    · cases g
  · split at g
    · cases g
      obtain ⟨a, xs, rfl, h1, r1⟩ := rp_lst rx
      obtain ⟨b, ys, rfl, h2, r2⟩ := rp_lst ry
      refine .inr (.inl ⟨a, b, xs, ys, rfl, rfl, sqL_hide h1, sqL_hide h2, ?_, w.nlst lv (r1.app r2)⟩)
      rw [r1.length, r2.length]
      exact big_ok (by assumption)
    · cases g
  · split at g
    · cases g
      obtain ⟨a, xs, rfl, h1, r1⟩ := rp_tup rx
      obtain ⟨b, ys, rfl, h2, r2⟩ := rp_tup ry
      refine .inr (.inr ⟨a, b, xs, ys, rfl, rfl, tup_hide h1, tup_hide h2, ?_, fun e => ?_, fun _ e => ?_, fun _ _ => w.ntup lv (r1.app r2)⟩)
      · rw [r1.length, r2.length]
        exact big_ok (by assumption)
      · subst e
        cases r1
        exact w.same (.tup h2 r2)
      · subst e
        cases r2
        rw [List.append_nil] at w
        exact w.same (.tup h1 r1)
    · cases g
  · cases g
theorem op_addI : OpR X (binaryOp .Add) (fun x y H Q => (rI0 (fun i j => .int (i + j)) x y H Q ∨ (∃ i j, x = .str i ∧ y = .str j ∧ i.length + j.length ≤ sizeLine ∧ Q (.str (i ++ j)) H)) ∨ (rCatL X.K x y H Q ∨ rCatA X.K x y H Q)) :=
  OpR.or (OpR.or op_add op_add_str) (OpR.or op_catL op_catA)
theorem imp_sub : Imp2 T X.K (rI0 fun i j => .int (i - j)) gSub := by
  intro S x y d e z H Q lv rx ry g w
  unfold gSub at g
  split at g
  · cases rp_int rx; cases rp_int ry; cases g
    exact ⟨_, _, rfl, rfl, w.int⟩
  · cases g
theorem imp_mul : Imp2 T X.K (fun x y H Q => (rI CMul (fun i j => .int (i * j)) x y H Q ∨ rI CMulW (fun i j => .int (i * j)) x y H Q) ∨ rRepT X.K x y H Q) gMul := by
  intro S x y d e z H Q lv rx ry g w
  unfold gMul at g
  split at g
  · split at g
    · rename_i h
      cases rp_int rx; cases rp_int ry; cases g
      unfold mulOk at h
      simp only [Bool.or_eq_true, Bool.and_eq_true, decide_eq_true_eq] at h
      rcases h with (h | h) | h
      · exact .inl (.inl ⟨_, _, rfl, rfl, .inl h, w.int⟩)
      · exact .inl (.inl ⟨_, _, rfl, rfl, .inr h, w.int⟩)
      · exact .inl (.inr ⟨_, _, rfl, rfl, wide_mul h.1 h.2 (by decide) (by decide) (by decide), w.int⟩)
    · cases g
  · split at g
    · rename_i h
      simp only [Bool.and_eq_true, decide_eq_true_eq] at h
      obtain ⟨⟨⟨h1, h2⟩, h3⟩, h4⟩ := h
      cases rp_int ry; cases g
      obtain ⟨a, xs, rfl, hs, r⟩ := rp_tup rx
      have el := r.length
      refine .inr ⟨a, _, xs, rfl, rfl, tup_hide hs, fun e => h1 ?_, h2, h3, by omega, w.ntup lv ?_⟩
      · subst e
        cases r
        rfl
      · clear h2 h3 w
        rename_i k
        induction k.toNat with
        | zero => exact .nil
        | succ n ih => rw [List.replicate_succ, List.replicate_succ, List.flatten_cons, List.flatten_cons]; exact r.app ih
    · cases g
  · cases g
theorem op_mulI : OpR X (binaryOp .Mult) (fun x y H Q => (rI CMul (fun i j => .int (i * j)) x y H Q ∨ rI CMulW (fun i j => .int (i * j)) x y H Q) ∨ rRepT X.K x y H Q) := OpR.or (OpR.or op_mul op_mulW) op_repT
theorem imp_mod : Imp2 T X.K (rI (fun _ j => 0 < j) fun i j => .int (i % j)) gMod := by
  intro S x y d e z H Q lv rx ry g w
  unfold gMod at g
  split at g
  · split at g
    · rename_i h
      cases rp_int rx; cases rp_int ry; cases g
      exact ⟨_, _, rfl, rfl, of_decide_eq_true h, w.int⟩
    · cases g
  · cases g
theorem imp_div : Imp2 T X.K (rI CDivW fun i j => .int (i / j)) gDiv := by
  intro S x y d e z H Q lv rx ry g w
  unfold gDiv at g
  split at g
  · split at g
    · rename_i h
      simp only [Bool.and_eq_true, decide_eq_true_eq] at h
      cases rp_int rx; cases rp_int ry; cases g
      exact ⟨_, _, rfl, rfl, wide_div h.1 h.2 (by decide) (by decide), w.int⟩
    · cases g
  · cases g
theorem imp_pow : Imp2 T X.K (rI CPow fun i j => .int (i ^ j.toNat)) gPow := by
  intro S x y d e z H Q lv rx ry g w
  unfold gPow at g
  split at g
  · split at g
    · rename_i h
      simp only [Bool.and_eq_true, decide_eq_true_eq] at h
      cases rp_int rx; cases rp_int ry; cases g
      exact ⟨_, _, rfl, rfl, ⟨h.1.1, h.1.2, h.2⟩, w.int⟩
    · cases g
  · cases g
theorem imp_neg : Imp1 T X.K (rU fun i => .int (-i)) gNeg := by
  intro S x d z H Q lv rx g w
  unfold gNeg at g
  split at g
  · cases rp_int rx; cases g
    exact ⟨_, rfl, w.int⟩
  · cases g
theorem imp_lt : Imp2 T X.K (rI0 fun i j => .bl (decide (i < j))) gLt := by
  intro S x y d e z H Q lv rx ry g w
  unfold gLt at g
  split at g
  · cases rp_int rx; cases rp_int ry; cases g
    exact ⟨_, _, rfl, rfl, w.bl⟩
  · cases g
theorem imp_le : Imp2 T X.K (rI0 fun i j => .bl (decide (i ≤ j))) gLe := by
  intro S x y d e z H Q lv rx ry g w
  unfold gLe at g
  split at g
  · cases rp_int rx; cases rp_int ry; cases g
    exact ⟨_, _, rfl, rfl, w.bl⟩
  · cases g
theorem imp_gt : Imp2 T X.K (rI0 fun i j => .bl (decide (j < i))) gGt := by
  intro S x y d e z H Q lv rx ry g w
  unfold gGt at g
  split at g
  · cases rp_int rx; cases rp_int ry; cases g
    exact ⟨_, _, rfl, rfl, w.bl⟩
  · cases g
theorem imp_inS : Imp2 T X.K (fun x y H Q => ∃ (c : Nat) (z : Str), x = .str ⟨#[c]⟩ ∧ y = .str z ∧ Q (.bl (decide (c ∈ z.cps.toList))) H) gInS := by
  intro S x y d e z H Q lv rx ry g w
  unfold gInS at g
  split at g
  · split at g
    · rename_i h
      cases rp_str rx; cases rp_str ry; cases g
      exact ⟨_, _, congrArg V.str (mem_hd (of_decide_eq_true h)), rfl, w.bl⟩
    · cases g
  · cases g
theorem imp_isN : Imp2 T X.K (fun x y H Q => y = .non ∧ Q (.bl (decide (x = .non))) H) (fun d e => if e matches .none then gIsN d e else none) := by
  intro S x y d e z H Q lv rx ry g w
  cases ry <;> first | (cases g; done) | skip
  refine ⟨rfl, ?_⟩
  cases rx <;> cases g <;> exact w.bl
theorem imp_notN : Imp2 T X.K (fun x y H Q => y = .non ∧ Q (.bl (!decide (x = .non))) H) (fun d e => if e matches .none then gNotN d e else none) := by
  intro S x y d e z H Q lv rx ry g w
  cases ry <;> first | (cases g; done) | skip
  refine ⟨rfl, ?_⟩
  cases rx <;> cases g <;> exact w.bl
/-! equality of data without dicts -/
mutual
theorem Rp.dp {K : PySem.W.Frag} {G : Hp} : ∀ {v : V} {d : D}, Rp K G v d → d.plain = true → Dp K G v d
  | _, _, .non, _ => .non
  | _, _, .bl b, _ => .bl b
  | _, _, .int i, _ => .int i
  | _, _, .str x, _ => .str x
  | _, _, .lst h r, p => .lst h (RpAll.dp r p)
  | _, _, .tup h r, p => .tup (.inl (.inl h)) (RpAll.dp r p)
  | _, _, .dT _ _, p => nomatch (show false = true from p)
  | _, _, .dK _ _, p => nomatch (show false = true from p)
  | _, _, .ob _ _ _ _, p => nomatch (show false = true from p)
theorem RpAll.dp {K : PySem.W.Frag} {G : Hp} : ∀ {vs : List V} {ds : List D}, RpAll K G vs ds → PyData.plainAll ds = true → DpAll K G vs ds
  | _, _, .nil, _ => .nil
  | _, _, .cons h r, p => .cons (Rp.dp h (Bool.and_eq_true_iff.mp p).1) (RpAll.dp r (Bool.and_eq_true_iff.mp p).2)
end
def rEqP (K : PySem.W.Frag) (neg : Bool) : R2 := fun x y H Q => ∃ d e b, Rp K H x d ∧ Rp K H y e ∧ gEqB d e = some b ∧ Q (.bl (if neg then !b else b)) H
theorem gEqB_is {d e : D} {b : Bool} (h : gEqB d e = some b) : d.plain = true ∧ e.plain = true ∧ min d.depth e.depth ≤ 60 ∧ b = d.eqv e := by
  unfold gEqB at h
  split at h
  · rename_i k
    simp only [Bool.and_eq_true, Bool.or_eq_true, decide_eq_true_eq] at k
    cases h
    exact ⟨k.1.1, k.1.2, by omega, rfl⟩
  · cases h
theorem op_eqP (hu : X.A.units + 64 < cLine) : OpR X (compareOp .Eq) (rEqP X.K false) := by
  intro pins s σ H x y v u Q I rx ry h
  obtain ⟨d, e, b, hx, hy, hb, q⟩ := h
  obtain ⟨p1, p2, p3, rfl⟩ := gEqB_is hb
  obtain ⟨as, r1⟩ := Dp.reads I d x v (hx.dp p1) rx
  obtain ⟨bs, r2⟩ := Dp.reads I e y u (hy.dp p2) ry
  exact PySem.SeqAt.eq_plain r1 r2 p1 p2 (by omega) ⟨.bl _, H, I, rfl, q⟩
theorem op_neP (hu : X.A.units + 64 < cLine) : OpR X (compareOp .NotEq) (rEqP X.K true) := by
  intro pins s σ H x y v u Q I rx ry h
  obtain ⟨d, e, b, hx, hy, hb, q⟩ := h
  obtain ⟨p1, p2, p3, rfl⟩ := gEqB_is hb
  obtain ⟨as, r1⟩ := Dp.reads I d x v (hx.dp p1) rx
  obtain ⟨bs, r2⟩ := Dp.reads I e y u (hy.dp p2) ry
  exact PySem.SeqAt.ne_plain r1 r2 p1 p2 (by omega) ⟨.bl _, H, I, rfl, q⟩
theorem unhide {K : PySem.W.Frag} {S : List Addr} {H : Hp} {v : V} {d : D} (h : Rp K (hide S H) v d) : Rp K H v d := by
  have l : RdLe (hide S H) H := by
    have z := hide_le (S := S) (H := H) (S' := []) (fun _ h => nomatch h)
    rw [hide_nil] at z
    exact z
  exact h.le l
theorem imp_eq : Imp2 T X.K (rEqP X.K false) gEq := by
  intro S x y d e z H Q lv rx ry g w
  unfold gEq at g
  cases hb : gEqB d e with
  | none => rw [hb] at g; cases g
  | some b =>
    rw [hb] at g
    cases g
    exact ⟨d, e, b, unhide rx, unhide ry, hb, w.bl⟩
theorem imp_ne : Imp2 T X.K (rEqP X.K true) gNe := by
  intro S x y d e z H Q lv rx ry g w
  unfold gNe at g
  cases hb : gEqB d e with
  | none => rw [hb] at g; cases g
  | some b =>
    rw [hb] at g
    cases g
    exact ⟨d, e, b, unhide rx, unhide ry, hb, w.bl⟩
end
end IL
namespace IL
open PySem PySem.Spec PyProof.Rows L2
/-! ### what a code computes, over the names' data -/
def mVar (i : Nat) : Ev := fun env => match env[i]? with
  | some (some d) => .ok d
  | _ => .stuck
def mC (d : D) : Ev := fun _ => .ok d
def m1 (g : D → Option D) (a : Ev) : Ev := fun env => (a env).bind fun d => ofO (g d)
def m2 (g : D → D → Option D) (a b : Ev) : Ev := fun env => (a env).bind fun d => (b env).bind fun e => ofO (g d e)
def mNil : Env → Res (List D) := fun _ => .ok []
def mCons (a : Ev) (r : Env → Res (List D)) : Env → Res (List D) := fun env => (a env).bind fun d => (r env).bind fun ds => .ok (d :: ds)
def mB (g : List D → Option D) (a : Env → Res (List D)) : Ev := fun env => (a env).bind fun ds => ofO (g ds)
def mCall (f : List D → Res D) (a : Env → Res (List D)) : Ev := fun env => (a env).bind f
def gTup (ds : List D) : Option D := if big ds.length = true then some (.tuple ds) else none
def gLst (ds : List D) : Option D := if big ds.length = true then some (.list ds) else none
def isB : D → Option Bool
  | .bool b => some b
  | _ => none
def mT (a : Ev) : Env → Res Bool := fun env => (a env).bind fun d => ofO (isB d)
def mAnd (a b : Env → Res Bool) : Env → Res Bool := fun env => (a env).bind fun x => if x = true then b env else .ok false
def mOr (a b : Env → Res Bool) : Env → Res Bool := fun env => (a env).bind fun x => if x = true then .ok true else b env
def mNot (a : Env → Res Bool) : Env → Res Bool := fun env => (a env).bind fun x => .ok (!x)
def mAndV (a b : Ev) : Ev := fun env => (a env).bind fun d => (ofO (isB d)).bind fun x => if x = true then b env else .ok (.bool false)
def mOrV (a b : Ev) : Ev := fun env => (a env).bind fun d => (ofO (isB d)).bind fun x => if x = true then .ok (.bool true) else b env
def mNotV (a : Ev) : Ev := fun env => (a env).bind fun d => (ofO (isB d)).bind fun x => .ok (.bool (!x))
def mIf (t : Env → Res Bool) (a b : Ev) : Ev := fun env => (t env).bind fun x => if x = true then a env else b env
def mChain (g g' : D → D → Option D) (a b c : Ev) : Ev := fun env => (a env).bind fun d => (b env).bind fun e => (ofO (g d e)).bind fun z => (ofO (isB z)).bind fun x => if x = true then (c env).bind fun f => ofO (g' e f) else .ok (.bool false)
/-- the parts of a slice -/
def mPart (o : Option Ev) : Env → Res (Option Int) := fun env => match o with
  | none => .ok none
  | some a => (a env).bind fun d => match d with | .int i => .ok (some i) | _ => .stuck
def mSl (a : Ev) (lo hi : Option Ev) : Ev := fun env => (a env).bind fun d => (mPart lo env).bind fun l => (mPart hi env).bind fun h => ofO (gSl d l h)
/-! dicts whose keys are tuples -/
def toKeys : List D → Option (List Key)
  | [] => some []
  | .int i :: r => (toKeys r).map (Sum.inl i :: ·)
  | .str x :: r => (toKeys r).map (Sum.inr x :: ·)
  | _ => none
def keyT : D → Option (List Key)
  | .tuple ks => toKeys ks
  | _ => none
def valT (es : List (D × D)) (k : List Key) : Option D := (es.find? fun e => decide (keyT e.1 = some k)).map (·.2)
def gDIn (k : D) : D → Option D
  | .dict (e :: es) => if (keyT e.1).isSome = true then (keyT k).map fun kk => .bool (valT (e :: es) kk).isSome else none
  | _ => none
def gDGet : D → D → Option D
  | .dict (e :: es), k => if (keyT e.1).isSome = true then (keyT k).bind fun kk => valT (e :: es) kk else none
  | _, _ => none
section
variable {T : Gam} {ca : XC → Addr} {X : Cx} {W : WX} {e a b c o i : Expr} {es : List Expr} {pos : Pos} {ma mb mc : Ev} {ms : Env → Res (List D)} {ta tb : Env → Res Bool}
theorem ie_var {i : Nat} {x : Str} (hN : X.N[i]? = some x := by rfl) (hv : Vis X.env.scope x := by first | exact Or.inl rfl | exact Or.inr (Or.inl rfl) | exact Or.inr (Or.inr rfl)) (hd : (x == ("__debug__" : Str)) = false := by decide) (hcd : (x == ("__classdict__" : Str)) = false := by decide) :
    IE T ca X W (.Name x pos) (mVar i) := ⟨pe_imp (pe_var hN hv hd hcd) fun σ H Q ⟨S, env, lv, rel, fin⟩ => by
  unfold mVar at fin
  split at fin
  · rename_i d e
    obtain ⟨v, h1, h2⟩ := rel.at_ i d e
    exact ⟨v, h1, fin v H .refl h2⟩
  · exact fin.elim⟩
theorem ie_int {i j} : IE T ca X W (.Constant (.int i) j pos) (mC (.int i)) := ⟨pe_imp pe_int fun σ H Q ⟨S, env, lv, rel, fin⟩ => fin _ H .refl (.int i)⟩
theorem ie_str {x j} : IE T ca X W (.Constant (.str x) j pos) (mC (.str x)) := ⟨pe_imp pe_str fun σ H Q ⟨S, env, lv, rel, fin⟩ => fin _ H .refl (.str x)⟩
theorem ie_bl {x j} : IE T ca X W (.Constant (.bool x) j pos) (mC (.bool x)) := ⟨pe_imp pe_bl fun σ H Q ⟨S, env, lv, rel, fin⟩ => fin _ H .refl (.bl x)⟩
theorem ie_non {j} : IE T ca X W (.Constant .none j pos) (mC .none) := ⟨pe_imp pe_non fun σ H Q ⟨S, env, lv, rel, fin⟩ => fin _ H .refl .non⟩
/-- a name of the module that holds a number or a text -/
theorem ie_gint {x : Str} {n : Int} {t : Tok} (hm : X.mg x = some (.int n t)) (hg : Gl X x := by rfl) (hd : (x == ("__debug__" : Str)) = false := by decide) : IE T ca X W (.Name x pos) (mC (.int n)) :=
  ⟨pe_imp (pe_glob (v := .int n) hg hm ⟨t, rfl⟩ hd) fun σ H Q ⟨S, env, lv, rel, fin⟩ => fin _ H .refl (.int n)⟩
theorem ie_gstr {x z : Str} {t : Tok} (hm : X.mg x = some (.str z t)) (hg : Gl X x := by rfl) (hd : (x == ("__debug__" : Str)) = false := by decide) : IE T ca X W (.Name x pos) (mC (.str z)) :=
  ⟨pe_imp (pe_glob (v := .str z) hg hm ⟨t, rfl⟩ hd) fun σ H Q ⟨S, env, lv, rel, fin⟩ => fin _ H .refl (.str z)⟩
/-- two operands in a row -/
theorem op_pre {S : List Addr} {env : Env} {σ : L2.St} {H : Hp} {Q : VK} {r : R2} {g : D → D → Option D} (lv : Live T S H) (rel : RelE X.K (hide S H) env σ) (fin : Fin T ca (Rv X.K S) W σ H (m2 g ma mb env) Q) (hr : Imp2 T X.K r g) : tOp r (tI T ca X.K W ma) (tI T ca X.K W mb) σ H Q :=
  ⟨S, env, lv, rel, Fin.bind (R' := Rv X.K S) fin fun d v H1 _ p1 r1 f1 => ⟨S, env, lv.le p1, rel.le p1, Fin.bind (R' := Rv X.K S) f1 fun e u H2 _ p2 r2 f2 => by
    obtain ⟨z, hz, w⟩ := f2.some
    exact hr S v u d e z H2 Q ((lv.le p1).le p2) (Rp.le p2.rd r1) r2 hz w⟩⟩
theorem ie_op {op : Operator} {r : R2} {g : D → D → Option D} (ho : OpR X (binaryOp op) r) (hr : Imp2 T X.K r g) (ha : IE T ca X W a ma) (hb : IE T ca X W b mb) : IE T ca X W (.BinOp a op b pos) (m2 g ma mb) :=
  ⟨pe_imp (pe_op ho ha.pe hb.pe) fun σ H Q ⟨S, env, lv, rel, fin⟩ => op_pre lv rel fin hr⟩
theorem ie_cmp {op : CmpOp} {r : R2} {g : D → D → Option D} (ho : OpR X (compareOp op) r) (hr : Imp2 T X.K r g) (ha : IE T ca X W a ma) (hb : IE T ca X W b mb) (hm : behindInMarks op b = false := by first | exact nomark _ | rfl) : IE T ca X W (.Compare a [op] [b] pos) (m2 g ma mb) :=
  ⟨pe_imp (pe_cmpR ho ha.pe hb.pe hm) fun σ H Q ⟨S, env, lv, rel, fin⟩ => op_pre lv rel fin hr⟩
/-- a test that is a bool's -/
theorem fin_T {S : List Addr} {σ : L2.St} {H : Hp} {r : Res D} {Q : Bool → Hp → Prop} (fin : Fin T ca Rb W σ H (r.bind fun d => ofO (isB d)) Q) : Fin T ca (Rv X.K S) W σ H r fun v H' => ∃ k, v = .bl k ∧ Q k H' :=
  Fin.bind (R' := Rv X.K S) fin fun d v H1 _ p1 r1 f1 => by
    obtain ⟨z, hz, w⟩ := f1.some
    cases d <;> cases hz
    cases rp_bl r1
    exact ⟨_, rfl, w _ H1 .refl rfl⟩
theorem it_val (ha : IE T ca X W e ma) (he : ∀ whole, isTrue e X.env whole = (do let v ← whole; standAt e.pos; holding [v] (truthy v)) := by intro _; rfl) : IT T ca X W e (mT ma) :=
  ⟨pt_imp (pt_val ha.pe he) fun σ H Q ⟨S, env, lv, rel, fin⟩ => ⟨S, env, lv, rel, fin_T (X := X) fin⟩⟩
theorem it_cmp {op : CmpOp} {r : R2} {g : D → D → Option D} (ho : OpR X (compareOp op) r) (hr : Imp2 T X.K r g) (ha : IE T ca X W a ma) (hb : IE T ca X W b mb) (hm : behindInMarks op b = false := by first | exact nomark _ | rfl) : IT T ca X W (.Compare a [op] [b] pos) (mT (m2 g ma mb)) :=
  ⟨pt_imp (pt_cmpR ho ha.pe hb.pe hm) fun σ H Q ⟨S, env, lv, rel, fin⟩ => op_pre lv rel (fin_T (X := X) (S := S) fin) hr⟩
theorem ie_neg (ha : IE T ca X W a ma) : IE T ca X W (.UnaryOp .USub a pos) (m1 gNeg ma) :=
  ⟨pe_imp (pe_un un_neg ha.pe) fun σ H Q ⟨S, env, lv, rel, fin⟩ => ⟨S, env, lv, rel, Fin.bind (R' := Rv X.K S) fin fun d v H1 _ p1 r1 f1 => by
    obtain ⟨z, hz, w⟩ := f1.some
    exact imp_neg (X := X) S v d z H1 Q (lv.le p1) r1 hz w⟩⟩
theorem chain_pre {S : List Addr} {env : Env} {σ : L2.St} {H : Hp} {Q : VK} {r r' : R2} {g g' : D → D → Option D} (lv : Live T S H) (rel : RelE X.K (hide S H) env σ) (fin : Fin T ca (Rv X.K S) W σ H (mChain g g' ma mb mc env) Q) (hr : Imp2 T X.K r g) (hr' : Imp2 T X.K r' g') :
    tChain r r' (tI T ca X.K W ma) (tI T ca X.K W mb) (tI T ca X.K W mc) σ H Q :=
  ⟨S, env, lv, rel, Fin.bind (R' := Rv X.K S) fin fun d v H1 _ p1 r1 f1 => ⟨S, env, lv.le p1, rel.le p1, Fin.bind (R' := Rv X.K S) f1 fun e u H2 _ p2 r2 f2 => by
    have lv2 := (lv.le p1).le p2
    cases hz : g d e with
    | none => rw [hz] at f2; exact f2.elim
    | some z =>
      rw [hz] at f2
      have f2 : Fin T ca (Rv X.K S) W σ H2 ((ofO (isB z)).bind fun x => if x = true then (mc env).bind fun f => ofO (g' e f) else .ok (.bool false)) Q := f2
      cases hb : isB z with
      | none => rw [hb] at f2; exact f2.elim
      | some k =>
        rw [hb] at f2
        have f2 : Fin T ca (Rv X.K S) W σ H2 (if k = true then (mc env).bind fun f => ofO (g' e f) else .ok (.bool false)) Q := f2
        cases z <;> cases hb
        refine hr S v u d e _ H2 _ lv2 (Rp.le p2.rd r1) r2 hz fun w' H3 p3 r3 => ⟨k, rp_bl r3, ?_⟩
        cases k with
        | true =>
          rw [if_pos rfl]
          have f3 : Fin T ca (Rv X.K S) W σ H2 ((mc env).bind fun f => ofO (g' e f)) Q := f2
          exact ⟨S, env, lv2.le p3, ((rel.le p1).le p2).le p3, Fin.bind (R' := Rv X.K S) (f3.le p3) fun f q H4 _ p4 r4 f4 => by
            obtain ⟨z', hz', w''⟩ := f4.some
            exact hr' S u q e f z' H4 Q ((lv2.le p3).le p4) (Rp.le (p3.trans p4).rd r2) r4 hz' w''⟩
        | false =>
          rw [if_neg Bool.false_ne_true]
          have f3 : Fin T ca (Rv X.K S) W σ H2 (.ok (.bool false)) Q := f2
          exact (f3.le p3) _ H3 .refl (.bl false)⟩⟩
theorem ie_chain {op op' : CmpOp} {r r' : R2} {g g' : D → D → Option D} (ho : OpR X (compareOp op) r) (ho' : OpR X (compareOp op') r') (hr : Imp2 T X.K r g) (hr' : Imp2 T X.K r' g') (ha : IE T ca X W a ma) (hb : IE T ca X W b mb) (hc : IE T ca X W c mc) (hm : lastMarks [op, op'] [b, c] = false := by with_unfolding_all rfl) :
    IE T ca X W (.Compare a [op, op'] [b, c] pos) (mChain g g' ma mb mc) := ⟨pe_imp (pe_chain ho ho' ha.pe hb.pe hc.pe hm) fun σ H Q ⟨S, env, lv, rel, fin⟩ => chain_pre lv rel fin hr hr'⟩
theorem it_chain {op op' : CmpOp} {r r' : R2} {g g' : D → D → Option D} (ho : OpR X (compareOp op) r) (ho' : OpR X (compareOp op') r') (hr : Imp2 T X.K r g) (hr' : Imp2 T X.K r' g') (ha : IE T ca X W a ma) (hb : IE T ca X W b mb) (hc : IE T ca X W c mc) (hm : lastMarks [op, op'] [b, c] = false := by with_unfolding_all rfl) :
    IT T ca X W (.Compare a [op, op'] [b, c] pos) (mT (mChain g g' ma mb mc)) := ⟨pt_imp (pt_chain ho ho' ha.pe hb.pe hc.pe hm) fun σ H Q ⟨S, env, lv, rel, fin⟩ => chain_pre lv rel (fin_T (X := X) (S := S) fin) hr hr'⟩
/-! and, or, not, if -/
theorem iw_one {op : BoolOp} (h : IT T ca X W a ta) (hw : ∀ {t : TT}, PT X a t → PW X (.BoolOp op [a] pos) t) : IW T ca X W (.BoolOp op [a] pos) ta := ⟨hw h.pt⟩
theorem iw_and1 (h : IT T ca X W a ta) : IW T ca X W (.BoolOp .And [a] pos) ta := ⟨pw_and1 h.pt⟩
theorem iw_or1 (h : IT T ca X W a ta) : IW T ca X W (.BoolOp .Or [a] pos) ta := ⟨pw_or1 h.pt⟩
theorem iw_and {rest : List Expr} (h : IT T ca X W a ta) (h' : IW T ca X W (.BoolOp .And (b :: rest) pos) tb) : IW T ca X W (.BoolOp .And (a :: b :: rest) pos) (mAnd ta tb) :=
  ⟨pw_imp (pw_and h.pt h'.pw) fun σ H Q ⟨S, env, lv, rel, fin⟩ => ⟨S, env, lv, rel, Fin.bind (R' := Rb) fin fun d v H1 _ p1 r1 f1 => by
    cases (show v = d from r1)
    cases d with
    | true => exact ⟨S, env, lv.le p1, rel.le p1, f1⟩
    | false => exact f1 false H1 .refl rfl⟩⟩
theorem iw_or {rest : List Expr} (h : IT T ca X W a ta) (h' : IW T ca X W (.BoolOp .Or (b :: rest) pos) tb) : IW T ca X W (.BoolOp .Or (a :: b :: rest) pos) (mOr ta tb) :=
  ⟨pw_imp (pw_or h.pt h'.pw) fun σ H Q ⟨S, env, lv, rel, fin⟩ => ⟨S, env, lv, rel, Fin.bind (R' := Rb) fin fun d v H1 _ p1 r1 f1 => by
    cases (show v = d from r1)
    cases d with
    | true => exact f1 true H1 .refl rfl
    | false => exact ⟨S, env, lv.le p1, rel.le p1, f1⟩⟩⟩
theorem IW.it (h : IW T ca X W e ta) : IT T ca X W e ta := ⟨h.pw.pt⟩
theorem it_not (h : IT T ca X W a ta) : IT T ca X W (.UnaryOp .Not a pos) (mNot ta) :=
  ⟨pt_imp (pt_not h.pt) fun σ H Q ⟨S, env, lv, rel, fin⟩ => ⟨S, env, lv, rel, Fin.bind (R' := Rb) fin fun d v H1 _ p1 r1 f1 => by
    cases (show v = d from r1)
    exact f1 _ H1 .refl rfl⟩⟩
theorem ie_one {op : BoolOp} (h : IE T ca X W a ma) : IE T ca X W (.BoolOp op [a] pos) ma := ⟨pe_one h.pe⟩
theorem fin_B {S : List Addr} {σ : L2.St} {H : Hp} {r : Res D} {k : Bool → Res D} {Q : VK} {Q' : VK} (fin : Fin T ca (Rv X.K S) W σ H (r.bind fun d => (ofO (isB d)).bind k) Q)
    (h : ∀ x H1, Pe T H H1 → Fin T ca (Rv X.K S) W σ H1 (k x) Q → Q' (.bl x) H1) : Fin T ca (Rv X.K S) W σ H r Q' :=
  Fin.bind (R' := Rv X.K S) fin fun d v H1 _ p1 r1 f1 => by
    cases d with
    | bool b => cases rp_bl r1; exact h b H1 p1 f1
    | _ => exact f1.elim
theorem ie_and {rest : List Expr} (h : IE T ca X W a ma) (h' : IE T ca X W (.BoolOp .And (b :: rest) pos) mb) : IE T ca X W (.BoolOp .And (a :: b :: rest) pos) (mAndV ma mb) :=
  ⟨pe_imp (pe_and h.pe h'.pe) fun σ H Q ⟨S, env, lv, rel, fin⟩ => ⟨S, env, lv, rel, fin_B (X := X) fin fun x H1 p1 f1 => ⟨x, rfl, by
    cases x with
    | true => exact ⟨S, env, lv.le p1, rel.le p1, f1⟩
    | false => exact f1 _ H1 .refl (.bl false)⟩⟩⟩
theorem ie_or {rest : List Expr} (h : IE T ca X W a ma) (h' : IE T ca X W (.BoolOp .Or (b :: rest) pos) mb) : IE T ca X W (.BoolOp .Or (a :: b :: rest) pos) (mOrV ma mb) :=
  ⟨pe_imp (pe_or h.pe h'.pe) fun σ H Q ⟨S, env, lv, rel, fin⟩ => ⟨S, env, lv, rel, fin_B (X := X) fin fun x H1 p1 f1 => ⟨x, rfl, by
    cases x with
    | true => exact f1 _ H1 .refl (.bl true)
    | false => exact ⟨S, env, lv.le p1, rel.le p1, f1⟩⟩⟩⟩
theorem ie_not (h : IE T ca X W a ma) : IE T ca X W (.UnaryOp .Not a pos) (mNotV ma) :=
  ⟨pe_imp (pe_not h.pe) fun σ H Q ⟨S, env, lv, rel, fin⟩ => ⟨S, env, lv, rel, fin_B (X := X) fin fun x H1 p1 f1 => ⟨x, rfl, f1 _ H1 .refl (.bl _)⟩⟩⟩
theorem ie_if (h : IT T ca X W c ta) (h1 : IE T ca X W a ma) (h2 : IE T ca X W b mb) : IE T ca X W (.IfExp c a b pos) (mIf ta ma mb) :=
  ⟨pe_imp (pe_ifExp h.pt h1.pe h2.pe) fun σ H Q ⟨S, env, lv, rel, fin⟩ => ⟨S, env, lv, rel, Fin.bind (R' := Rb) fin fun d v H1 _ p1 r1 f1 => by
    cases (show v = d from r1)
    cases d with
    | true => exact ⟨S, env, lv.le p1, rel.le p1, f1⟩
    | false => exact ⟨S, env, lv.le p1, rel.le p1, f1⟩⟩⟩
/-! argument lists, displays, calls -/
theorem ia_nil : IA T ca X W [] mNil := ⟨pa_imp pa_nil fun σ H Q ⟨S, env, lv, rel, fin⟩ => fin [] H .refl .nil⟩
theorem ia_cons (h : IE T ca X W e ma) (hr : IA T ca X W es ms) (hs : starEach (e :: es) X.env = (false, eval e X.env) :: starEach es X.env := by rfl) : IA T ca X W (e :: es) (mCons ma ms) :=
  ⟨pa_imp (pa_cons h.pe hr.pa hs) fun σ H Q ⟨S, env, lv, rel, fin⟩ => ⟨S, env, lv, rel, Fin.bind (R' := Rv X.K S) fin fun d v H1 _ p1 r1 f1 => ⟨S, env, lv.le p1, rel.le p1, Fin.bind (R' := Ra X.K S) f1 fun ds vs H2 _ p2 r2 f2 => f2 (v :: vs) H2 .refl (.cons (Rp.le p2.rd r1) r2)⟩⟩⟩
theorem fin_N {S : List Addr} {σ : L2.St} {H : Hp} {r : Res (List D)} {g : List D → Option D} {Q : VK} {Q' : List V → Hp → Prop} (lv : Live T S H) (fin : Fin T ca (Rv X.K S) W σ H (r.bind fun ds => ofO (g ds)) Q)
    (h : ∀ vs ds z H1, Live T S H1 → RpAll X.K (hide S H1) vs ds → g ds = some z → Wants T X.K S H1 z Q → Q' vs H1) : Fin T ca (Ra X.K S) W σ H r Q' :=
  Fin.bind (R' := Ra X.K S) fin fun ds vs H1 _ p1 r1 f1 => by
    obtain ⟨z, hz, w⟩ := f1.some
    exact h vs ds z H1 (lv.le p1) r1 hz w
theorem ie_tup {x1} (h : IA T ca X W es ms) : IE T ca X W (.Tuple es x1 pos) (mB gTup ms) :=
  ⟨pe_imp (pe_tup h.pa) fun σ H Q ⟨S, env, lv, rel, fin⟩ => ⟨S, env, lv, rel, fin_N (X := X) lv fin fun vs ds z H1 lv1 r g w => by
    unfold gTup at g
    split at g
    · cases g
      exact ⟨by rw [r.length]; exact big_ok (by assumption), w.ntup lv1 r⟩
    · cases g⟩⟩
theorem ie_lst (h : IA T ca X W es ms) : IE T ca X W (.List es pos) (mB gLst ms) :=
  ⟨pe_imp (pe_lst h.pa) fun σ H Q ⟨S, env, lv, rel, fin⟩ => ⟨S, env, lv, rel, fin_N (X := X) lv fin fun vs ds z H1 lv1 r g w => by
    unfold gLst at g
    split at g
    · cases g
      exact ⟨by rw [r.length]; exact big_ok (by assumption), w.nlst lv1 r⟩
    · cases g⟩⟩
/-- [..] * k -/
def gRepL (k : Int) (ds : List D) : Option D := if big ds.length && decide (0 ≤ k) && decide (k ≤ 100) && big (ds.length * k.toNat) = true then some (.list (List.replicate k.toNat ds).flatten) else none
theorem ie_rep {j p p2 k} (h : IA T ca X W es ms) : IE T ca X W (.BinOp (.List es p) .Mult (.Constant (.int k) j p2) pos) (mB (gRepL k) ms) :=
  ⟨pe_imp (pe_op op_rep (pe_lst h.pa) pe_int) fun σ H Q ⟨S, env, lv, rel, fin⟩ => ⟨S, env, lv, rel, fin_N (X := X) lv fin fun vs ds z H1 lv1 r g w => by
    unfold gRepL at g
    split at g
    · rename_i hc
      simp only [Bool.and_eq_true, decide_eq_true_eq] at hc
      obtain ⟨⟨⟨h1, h2⟩, h3⟩, h4⟩ := hc
      cases g
      have el := r.length
      refine ⟨by rw [el]; exact big_ok h1, fun l hl => ⟨l, k, vs, rfl, rfl, upd_same, by omega, by omega, by rw [el]; exact big_ok h4, ?_⟩⟩
      have p1 : Pe T H1 (upd H1 l (.lst vs)) := .new hl
      intro p hp
      refine w _ _ (p1.trans (.new hp)) (.lst (.inl (.inl ((lv1.le p1).new hp))) ?_)
      have r' := RpAll.le ((p1.trans (.new (o := .lst (List.replicate k.toNat vs).flatten) hp)).rd) r
      clear w h2 h3 h4 hp
      revert r'
      generalize hide S _ = G
      intro r'
      induction k.toNat with
      | zero => exact .nil
      | succ n ih => rw [List.replicate_succ, List.replicate_succ, List.flatten_cons, List.flatten_cons]; exact r'.app ih
    · cases g⟩⟩
theorem ie_callB {x : Str} {id : String} {p : Pos} {r : List V → Hp → VK → Prop} {g : List D → Option D} (hc : CallR X (.builtin id) r) (hr : ImpN T X.K r g) (hv : bootBuiltins x = some (.builtin id)) (hm : X.mg x = none) (h : IA T ca X W (e :: es) ms) (hg : Gl X x := by rfl) (hn : x ≠ "__name__" := by decide) (hdb : (x == ("__debug__" : Str)) = false := by decide)
    (he : starEach (e :: es) X.env = (false, eval e X.env) :: starEach es X.env := by rfl) (hpl : (backTo pos (starEach es X.env)).any (·.1) = false := by rfl) : IE T ca X W (.Call (.Name x p) (e :: es) [] pos) (mB g ms) :=
  ⟨pe_imp (pe_callB hc hg hm hv h.pa hn hdb he hpl) fun σ H Q ⟨S, env, lv, rel, fin⟩ => ⟨S, env, lv, rel, fin_N (X := X) lv fin fun vs ds z H1 lv1 r1 g w => hr S vs ds z H1 Q lv1 r1 g w⟩⟩
theorem ie_callTy {x : Str} {id : String} {p : Pos} {r : List V → Hp → VK → Prop} {g : List D → Option D} (hc : CallR X (.type id) r) (hr : ImpN T X.K r g) (hv : bootBuiltins x = some (.type id)) (hm : X.mg x = none) (h : IA T ca X W (e :: es) ms) (hg : Gl X x := by rfl) (hn : x ≠ "__name__" := by decide) (hdb : (x == ("__debug__" : Str)) = false := by decide)
    (he : starEach (e :: es) X.env = (false, eval e X.env) :: starEach es X.env := by rfl) (hpl : (backTo pos (starEach es X.env)).any (·.1) = false := by rfl) : IE T ca X W (.Call (.Name x p) (e :: es) [] pos) (mB g ms) :=
  ⟨pe_imp (pe_callTy hc hg hm hv h.pa hn hdb he hpl) fun σ H Q ⟨S, env, lv, rel, fin⟩ => ⟨S, env, lv, rel, fin_N (X := X) lv fin fun vs ds z H1 lv1 r1 g w => hr S vs ds z H1 Q lv1 r1 g w⟩⟩
/-! slices, items -/
theorem io_none : PO X none (tNoPart) := po_none
theorem ie_ix {r : R2} {g : D → D → Option D} (hr : IxR X r) (hi : Imp2 T X.K r g) (ha : IE T ca X W a ma) (hb : IE T ca X W b mb) (hs : PlainIx b := by exact fun _ _ => rfl) : IE T ca X W (.Subscript a b pos) (m2 g ma mb) :=
  ⟨pe_imp (pe_ix hr ha.pe hb.pe hs) fun σ H Q ⟨S, env, lv, rel, fin⟩ => op_pre lv rel fin hi⟩
end
section
variable {T : Gam} {X : Cx}
theorem at_rp {K : PySem.W.Frag} {G : Hp} {vs : List V} {ds : List D} {i : Int} {d : D} (r : RpAll K G vs ds) (h : atI ds i = some d) : ∃ v, atI vs i = some v ∧ Rp K G v d := by
  unfold atI at h ⊢
  rw [r.length]
  cases e : ixN ds.length i with
  | none => rw [e] at h; cases h
  | some j =>
    rw [e] at h
    exact RpAll.get r h
theorem imp_ix : Imp2 T X.K (rIx X.K) gIx := by
  intro S x y d e z H Q lv rx ry g w
  unfold gIx at g
  split at g
  · obtain ⟨a, xs, rfl, h1, r1⟩ := rp_lst rx
    cases rp_int ry
    obtain ⟨v, e1, rv⟩ := at_rp r1 g
    exact .inl ⟨a, xs, _, v, rfl, rfl, sqL_hide h1, e1, w.same rv⟩
  · obtain ⟨a, xs, rfl, h1, r1⟩ := rp_tup rx
    cases rp_int ry
    obtain ⟨v, e1, rv⟩ := at_rp r1 g
    exact .inr (.inl ⟨a, xs, _, v, rfl, rfl, tup_hide h1, e1, w.same rv⟩)
  · cases rp_str rx
    cases rp_int ry
    split at g
    · rename_i hb
      obtain ⟨c, hc, rfl⟩ := Option.map_eq_some_iff.mp g
      exact .inr (.inr ⟨_, _, c, rfl, rfl, big_ok hb, hc, w.str⟩)
    · cases g
  · cases g
theorem imp_abs : ImpN T X.K (fun xs H Q => ∃ i, xs = [.int i] ∧ Q (.int (if i < 0 then -i else i)) H) gAbs := by
  intro S xs ds z H Q lv r g w
  unfold gAbs at g
  split at g
  · cases r with
    | cons h r => cases r; cases rp_int h; cases g; exact ⟨_, rfl, w.int⟩
  · cases g
def rLenG (K : PySem.W.Frag) : List V → Hp → VK → Prop := fun xs H Q => (∃ p ys, xs = [.ref p] ∧ (SqL K H p ys ∨ SqT K H p ys) ∧ Q (.int ys.length) H) ∨ ∃ z : Str, xs = [.str z] ∧ z.length ≤ sizeLine ∧ Q (.int z.length) H
theorem call_lenG : CallR X (.builtin "len") (rLenG X.K) := CallR.or call_len_seq call_len_str
theorem imp_len : ImpN T X.K (rLenG X.K) gLen := by
  intro S xs ds z H Q lv r g w
  unfold gLen at g
  split at g
  · cases r with
    | cons h r =>
      cases r
      cases g
      obtain ⟨a, ys, rfl, h1, r1⟩ := rp_lst h
      exact .inl ⟨a, ys, rfl, .inl (sqL_hide h1), by rw [r1.length]; exact w.int⟩
  · cases r with
    | cons h r =>
      cases r
      cases g
      obtain ⟨a, ys, rfl, h1, r1⟩ := rp_tup h
      exact .inl ⟨a, ys, rfl, .inr (tup_hide h1), by rw [r1.length]; exact w.int⟩
  · split at g
    · cases r with
      | cons h r => cases r; cases rp_str h; cases g; exact .inr ⟨_, rfl, big_ok (by assumption), w.int⟩
    · cases g
  · cases g
theorem bools_rp {K : PySem.W.Frag} {G : Hp} : ∀ {vs : List V} {ds : List D} {bs : List Bool}, RpAll K G vs ds → boolsOf ds = some bs → vs = bs.map V.bl
  | _, _, _, .nil, h => by cases h; rfl
  | _, _, _, .cons (d := d) h r, e => by
    cases d with
    | bool b =>
      obtain ⟨bs, h1, rfl⟩ := Option.map_eq_some_iff.mp e
      cases rp_bl h
      rw [bools_rp r h1] <;> rfl
    | _ => cases e
theorem ints_rp {K : PySem.W.Frag} {G : Hp} : ∀ {vs : List V} {ds : List D} {bs : List Int}, RpAll K G vs ds → intsOf ds = some bs → vs = bs.map V.int
  | _, _, _, .nil, h => by cases h; rfl
  | _, _, _, .cons (d := d) h r, e => by
    cases d with
    | int b =>
      obtain ⟨bs, h1, rfl⟩ := Option.map_eq_some_iff.mp e
      cases rp_int h
      rw [ints_rp r h1] <;> rfl
    | _ => cases e
theorem imp_all : ImpN T X.K (rAll X.K) gAll := by
  intro S xs ds z H Q lv r g w
  unfold gAll at g
  split at g
  · cases r with
    | cons h r =>
      cases r
      obtain ⟨bs, e, rfl⟩ := Option.map_eq_some_iff.mp g
      obtain ⟨a, ys, rfl, h1, r1⟩ := rp_lst h
      exact ⟨a, bs, rfl, by rw [← bools_rp r1 e]; exact sqL_hide h1, w.bl⟩
  · cases g
theorem imp_any : ImpN T X.K (rAny X.K) gAny := by
  intro S xs ds z H Q lv r g w
  unfold gAny at g
  split at g
  · cases r with
    | cons h r =>
      cases r
      obtain ⟨bs, e, rfl⟩ := Option.map_eq_some_iff.mp g
      obtain ⟨a, ys, rfl, h1, r1⟩ := rp_lst h
      exact ⟨a, bs, rfl, by rw [← bools_rp r1 e]; exact sqL_hide h1, w.bl⟩
  · cases g
theorem imp_sum : ImpN T X.K (rSum X.K) gSum := by
  intro S xs ds z H Q lv r g w
  unfold gSum at g
  split at g
  · cases r with
    | cons h r =>
      cases r
      obtain ⟨bs, e, rfl⟩ := Option.map_eq_some_iff.mp g
      obtain ⟨a, ys, rfl, h1, r1⟩ := rp_lst h
      exact ⟨a, bs, rfl, by rw [← ints_rp r1 e]; exact sqL_hide h1, w.int⟩
  · cases g
theorem imp_int : ImpN T X.K (fun xs H Q => (∃ i, xs = [.int i] ∧ Q (.int i) H) ∨ ∃ k, xs = [.bl k] ∧ Q (.int (if k then 1 else 0)) H) gInt := by
  intro S xs ds z H Q lv r g w
  unfold gInt at g
  split at g
  · cases r with
    | cons h r => cases r; cases rp_int h; cases g; exact .inl ⟨_, rfl, w.int⟩
  · cases r with
    | cons h r => cases r; cases rp_bl h; cases g; exact .inr ⟨_, rfl, w.int⟩
  · cases g
theorem imp_max2 : ImpN T X.K (fun xs H Q => ∃ i j, xs = [.int i, .int j] ∧ Q (.int (if j > i then j else i)) H) gMax2 := by
  intro S xs ds z H Q lv r g w
  unfold gMax2 at g
  split at g
  · cases r with
    | cons h r => cases r with
      | cons h2 r => cases r; cases rp_int h; cases rp_int h2; cases g; exact ⟨_, _, rfl, w.int⟩
  · cases g
theorem imp_min2 : ImpN T X.K (fun xs H Q => ∃ i j, xs = [.int i, .int j] ∧ Q (.int (if j < i then j else i)) H) gMin2 := by
  intro S xs ds z H Q lv r g w
  unfold gMin2 at g
  split at g
  · cases r with
    | cons h r => cases r with
      | cons h2 r => cases r; cases rp_int h; cases rp_int h2; cases g; exact ⟨_, _, rfl, w.int⟩
  · cases g
theorem imp_tupOf : ImpN T X.K (fun xs H Q => ∃ p ys, xs = [.ref p] ∧ ((SqL X.K H p ys ∧ ∀ l, H l = none → Q (.ref l) (upd H l (.tup ys))) ∨ (SqT X.K H p ys ∧ Q (.ref p) H))) gTupOf := by
  intro S xs ds z H Q lv r g w
  unfold gTupOf at g
  split at g
  · cases r with
    | cons h r =>
      cases r
      cases g
      obtain ⟨a, ys, rfl, h1, r1⟩ := rp_lst h
      exact ⟨a, ys, rfl, .inl ⟨sqL_hide h1, w.ntup lv r1⟩⟩
  · cases r with
    | cons h r =>
      cases r
      cases g
      obtain ⟨a, ys, rfl, h1, r1⟩ := rp_tup h
      exact ⟨a, ys, rfl, .inr ⟨tup_hide h1, w.same (.tup h1 r1)⟩⟩
  · cases g
end
end IL
namespace IL
open PySem PySem.Spec PyProof.Rows L2
/-! ### isinstance of data against a built-in class -/
def tyName : D → String
  | .none => "NoneType"
  | .bool _ => "bool"
  | .int _ => "int"
  | .str _ => "str"
  | .list _ => "list"
  | .tuple _ => "tuple"
  | .dict _ => "dict"
def gIsi (n : String) (d : D) : Option D := if isOb d = true then none else (kitB (tyName d) n).map .bool
theorem gIsi_is {n : String} {d z : D} (h : gIsi n d = some z) : isOb d = false ∧ (kitB (tyName d) n).map .bool = some z := by
  unfold gIsi at h
  split at h
  · cases h
  · rename_i q
    exact ⟨by simpa using q, h⟩
section
variable {T : Gam} {ca : XC → Addr} {X : Cx} {W : WX} {e a b c o i : Expr} {es : List Expr} {pos : Pos} {ma mb mc : Ev} {ms : Env → Res (List D)} {ta tb : Env → Res Bool}
theorem kit_rp {pins : List (Addr × Obj)} {σ : L2.St} {H : Hp} {s : Shared} {x : V} {u : Value} {d : D} (I : Inv X pins σ H s) (rx : RelV x u) (h : Rp X.K H x d) (no : isOb d = false) :
    ∃ P : Heap → Prop, PySem.W.KitX X.K u (.type (tyName d)) P ∧ P s.heap ∧ u ≠ .builtin "__main__.__loader__#opaque" := by
  cases h with
  | non => cases (show u = Value.none from rx); exact ⟨_, PySem.W.kitx_none, True.intro, fun z => nomatch z⟩
  | bl y => cases (show u = Value.bool y from rx); exact ⟨_, PySem.W.kitx_bool, True.intro, fun z => nomatch z⟩
  | int i => obtain ⟨t, q⟩ := (show ∃ t, u = Value.int i t from rx); cases q; exact ⟨_, PySem.W.kitx_int, True.intro, fun z => nomatch z⟩
  | str y => obtain ⟨t, q⟩ := (show ∃ t, u = Value.str y t from rx); cases q; exact ⟨_, PySem.W.kitx_str, True.intro, fun z => nomatch z⟩
  | lst h r =>
    cases rx
    obtain ⟨its, _, ⟨ob, n, e1, e2, _⟩, _⟩ := I.list h
    exact ⟨_, PySem.W.kitx_list, ⟨ob, e1, e2⟩, fun z => nomatch z⟩
  | tup h r =>
    cases rx
    obtain ⟨_, _, _, ob, e1, e2, _⟩ := I.hok _ _ h
    exact ⟨_, PySem.W.kitx_tuple, ⟨ob, e1, e2⟩, fun z => nomatch z⟩
  | dT h r =>
    cases rx
    obtain ⟨_, _, xs, _, ob, es, ep, e1, e2, _⟩ := h.ok I.hok
    exact ⟨_, PySem.W.kitx_dict, ⟨ob, e1, e2.1⟩, fun z => nomatch z⟩
  | dK h r =>
    cases rx
    obtain ⟨_, _, vs, _, ob, es, ep, e1, e2, _⟩ := h.ok I.hok
    exact ⟨_, PySem.W.kitx_dict, ⟨ob, e1, e2.1⟩, fun z => nomatch z⟩
  | ob => cases no
def rIsiP (K : PySem.W.Frag) : List V → Hp → VK → Prop := fun xs H Q => ∃ (x : V) (n : String) (d : D) (b : Bool), xs = [x, .ty n] ∧ Rp K H x d ∧ isOb d = false ∧ kitB (tyName d) n = some b ∧ Q (.bl b) H
theorem call_isiP : CallR X (.builtin "isinstance") (rIsiP X.K) := by
  intro pins s σ H xs us Q I r h
  obtain ⟨x, n, d, b, rfl, hx, no, e, q⟩ := h
  obtain ⟨u1, u2, rfl, r1, r2⟩ := vals2 r
  cases (show u2 = Value.type n from r2)
  obtain ⟨P, Z, p, ne⟩ := kit_rp I r1 hx no
  exact PySem.W.kia_one Z I.kIn p (kit_ty e) ne fun tk => ⟨.bl b, H, I.tok tk, rfl, q⟩
theorem ie_isi {t : Str} {n : String} {p p2 : Pos} (hv : bootBuiltins t = some (.type n)) (h : IE T ca X W a ma) (hmt : X.mg t = none) (hm : X.mg "isinstance" = none) (hgt : Gl X t := by rfl) (hg : Gl X "isinstance" := by rfl) (hnt : t ≠ "__name__" := by decide) (hdt : (t == ("__debug__" : Str)) = false := by decide)
    (hs : starEach (a :: [.Name t p2]) X.env = (false, eval a X.env) :: starEach [.Name t p2] X.env := by rfl) (hpl : (backTo pos (starEach [.Name t p2] X.env)).any (·.1) = false := by rfl) : IE T ca X W (.Call (.Name "isinstance" p) [a, .Name t p2] [] pos) (m1 (gIsi n) ma) :=
  ⟨pe_imp (pe_callB call_isiP hg hm (by decide +kernel) (pa_cons h.pe (pa_cons (pe_bltn (v := .ty n) hgt hmt hv rfl hnt hdt) pa_nil) hs) (by decide) (by decide) hs hpl) fun σ H Q ⟨S, env, lv, rel, fin⟩ => ⟨S, env, lv, rel, Fin.bind (R' := Rv X.K S) fin fun d v H1 _ p1 r1 f1 => by
    obtain ⟨z, hz, w⟩ := f1.some
    obtain ⟨no, hz⟩ := gIsi_is hz
    obtain ⟨b, hb, rfl⟩ := Option.map_eq_some_iff.mp hz
    exact ⟨v, n, d, b, rfl, unhide r1, no, hb, Wants.bl (T := T) (K := X.K) (S := S) w⟩⟩⟩
/-! ### dicts with tuple keys -/
theorem toKeys_map : ∀ k : List Key, toKeys (k.map kD) = some k
  | [] => rfl
  | .inl i :: k => by
    show (toKeys (k.map kD)).map (Sum.inl i :: ·) = _
    rw [toKeys_map k] <;> rfl
  | .inr i :: k => by
    show (toKeys (k.map kD)).map (Sum.inr i :: ·) = _
    rw [toKeys_map k] <;> rfl
theorem keys_rp {K : PySem.W.Frag} {G : Hp} : ∀ {vs : List V} {ks : List D} {k : List Key}, RpAll K G vs ks → toKeys ks = some k → vs = k.map kV ∧ ks = k.map kD
  | _, _, _, .nil, e => by cases e; exact ⟨rfl, rfl⟩
  | _, _, _, .cons (d := d) h r, e => by
    cases d with
    | int i =>
      obtain ⟨k', e1, rfl⟩ := Option.map_eq_some_iff.mp e
      obtain ⟨e2, e3⟩ := keys_rp r e1
      cases rp_int h
      exact ⟨by rw [e2] <;> rfl, by rw [e3] <;> rfl⟩
    | str i =>
      obtain ⟨k', e1, rfl⟩ := Option.map_eq_some_iff.mp e
      obtain ⟨e2, e3⟩ := keys_rp r e1
      cases rp_str h
      exact ⟨by rw [e2] <;> rfl, by rw [e3] <;> rfl⟩
    | _ => cases e
theorem key_rp {K : PySem.W.Frag} {S : List Addr} {H : Hp} {v : V} {d : D} {k : List Key} (h : Rp K (hide S H) v d) (e : keyT d = some k) : ∃ q, v = .ref q ∧ H q = some (.tup (k.map kV)) ∧ d = .tuple (k.map kD) := by
  cases d with
  | tuple ks =>
    obtain ⟨a, xs, rfl, h1, r1⟩ := rp_tup h
    obtain ⟨e1, e2⟩ := keys_rp r1 e
    exact ⟨a, rfl, by rw [← e1]; exact (hide_some h1).2, by rw [e2]⟩
  | _ => cases e
theorem keyT_tuple (k : List Key) : keyT (.tuple (k.map kD)) = some k := toKeys_map k
theorem val_rp {K : PySem.W.Frag} {G : Hp} {k : List Key} : ∀ {kvs : List (List Key × V)} {es : List (D × D)}, RpT K G kvs es → (valV kvs k = none ∧ valT es k = none) ∨ ∃ v d, valV kvs k = some v ∧ valT es k = some d ∧ Rp K G v d
  | _, _, .nil => .inl ⟨rfl, rfl⟩
  | _, _, .cons (k := k') (v := v) (kvs := kvs) (d := d) (es := es) h r => by
    by_cases e : k' = k
    · refine .inr ⟨v, d, ?_, ?_, h⟩
      · show (((k', v) :: kvs).find? fun kv => decide (kv.1 = k)).map (·.2) = _
        rw [List.find?_cons_of_pos (by simpa using e)] <;> rfl
      · show (((PyData.tuple (k'.map kD), d) :: es).find? fun e => decide (keyT e.1 = some k)).map (·.2) = _
        rw [List.find?_cons_of_pos (by rw [keyT_tuple, e]; simp)] <;> rfl
    · have h1 : valV ((k', v) :: kvs) k = valV kvs k := by
        show (((k', v) :: kvs).find? fun kv => decide (kv.1 = k)).map (·.2) = _
        rw [List.find?_cons_of_neg (by simpa using e)] <;> rfl
      have h2 : valT ((PyData.tuple (k'.map kD), d) :: es) k = valT es k := by
        show (((PyData.tuple (k'.map kD), d) :: es).find? fun e => decide (keyT e.1 = some k)).map (·.2) = _
        rw [List.find?_cons_of_neg (by rw [keyT_tuple]; simpa using e)] <;> rfl
      rw [h1, h2]
      exact val_rp r
/-- a dict's datum whose first key is a tuple is a dict with tuple keys -/
theorem dT_rp {K : PySem.W.Frag} {S : List Addr} {H : Hp} {v : V} {e : D × D} {es : List (D × D)} (h : Rp K (hide S H) v (.dict (e :: es))) (hk : (keyT e.1).isSome = true) : ∃ a kvs, v = .ref a ∧ Rd H a (.dT kvs) ∧ RpT K (hide S H) kvs (e :: es) := by
  cases h with
  | dT h r => exact ⟨_, _, rfl, rd_hide h, r⟩
  | dK h r =>
    cases r with
    | @cons k _ _ _ _ h' r' => cases k <;> cases hk
  | ob => cases hk
theorem din_pre {S : List Addr} {env : Env} {σ : L2.St} {H : Hp} {Q : VK} (lv : Live T S H) (rel : RelE X.K (hide S H) env σ) (fin : Fin T ca (Rv X.K S) W σ H (m2 gDIn ma mb env) Q) : tDIn (tI T ca X.K W ma) (tI T ca X.K W mb) σ H Q :=
  ⟨S, env, lv, rel, Fin.bind (R' := Rv X.K S) fin fun d v H1 _ p1 r1 f1 => ⟨S, env, lv.le p1, rel.le p1, Fin.bind (R' := Rv X.K S) f1 fun e u H2 _ p2 r2 f2 => by
    obtain ⟨z, hz, w⟩ := f2.some
    unfold gDIn at hz
    split at hz
    · split at hz
      · obtain ⟨k, hk, rfl⟩ := Option.map_eq_some_iff.mp hz
        rename_i e0 es0 hs
        obtain ⟨a, kvs, rfl, hd, rr⟩ := dT_rp r2 hs
        obtain ⟨q, rfl, hq, _⟩ := key_rp (Rp.le p2.rd r1) hk
        refine ⟨a, _, rfl, .inr ⟨kvs, k, q, hd, rfl, hq, rfl⟩, ?_⟩
        rcases val_rp (k := k) rr with ⟨e1, e2⟩ | ⟨x, y, e1, e2, _⟩
        · rw [e1]
          rw [e2] at w
          exact Wants.bl (T := T) (K := X.K) (S := S) w
        · rw [e1]
          rw [e2] at w
          exact Wants.bl (T := T) (K := X.K) (S := S) w
      · cases hz
    · cases hz⟩⟩
theorem ie_din (hu : X.A.units + 64 < cLine) (ha : IE T ca X W a ma) (hb : IE T ca X W b mb) (h1 : behindInMarks .In b = false := by rfl) : IE T ca X W (.Compare a [.In] [b] pos) (m2 gDIn ma mb) :=
  ⟨pe_imp (pe_cmp (pc_din (by omega) ha.pe hb.pe) h1) fun σ H Q ⟨S, env, lv, rel, fin⟩ => din_pre lv rel fin⟩
theorem ie_dget (hu : X.A.units + 64 < cLine) (ha : IE T ca X W a ma) (hb : IE T ca X W b mb) (hs : NoSl b := by exact fun _ _ => rfl) : IE T ca X W (.Subscript a b pos) (m2 gDGet ma mb) :=
  ⟨pe_imp (pe_dget (by omega) ha.pe hb.pe hs) fun σ H Q ⟨S, env, lv, rel, fin⟩ => ⟨S, env, lv, rel, Fin.bind (R' := Rv X.K S) fin fun d v H1 _ p1 r1 f1 => ⟨S, env, lv.le p1, rel.le p1, Fin.bind (R' := Rv X.K S) f1 fun e u H2 _ p2 r2 f2 => by
    obtain ⟨z, hz, w⟩ := f2.some
    unfold gDGet at hz
    split at hz
    · split at hz
      · obtain ⟨k, hk, hv⟩ := Option.bind_eq_some_iff.mp hz
        rename_i e0 es0 _ hs
        obtain ⟨a, kvs, rfl, hd, rr⟩ := dT_rp (Rp.le p2.rd r1) hs
        obtain ⟨q, rfl, hq, _⟩ := key_rp r2 hk
        rcases val_rp (k := k) rr with ⟨e1, e2⟩ | ⟨x, y, e1, e2, e3⟩
        · rw [e2] at hv; cases hv
        · rw [e2] at hv
          cases hv
          exact ⟨a, x, rfl, .inr ⟨kvs, k, q, hd, rfl, hq, e1.symm⟩, Wants.same (T := T) (K := X.K) (S := S) w e3⟩
      · cases hz
    · cases hz⟩⟩⟩
/-! ### a def of the text, called -/
/-- f's promise: on data it answers as g does -/
def SpD (T : Gam) (ca : XC → Addr) (K : PySem.W.Frag) (n : Nat) (g : List D → Res D) : Sp := fun vs H Q E => vs.length = n ∧ ∃ S ds, Live T S H ∧ RpAll K (hide S H) vs ds ∧ Fin T ca (Rv K S) (fun c d _ H' => E c d H') [] H (g ds) Q
theorem fin_W {α β : Type} {R : Hp → β → α → Prop} {W' : WX} {σ σ' : L2.St} {H : Hp} {r : Res α} {Q : β → Hp → Prop} (f : Fin T ca R W σ H r Q) (h : ∀ c H', Pe T H H' → W (.ref (ca c)) none σ H' → W' (.ref (ca c)) none σ' H') : Fin T ca R W' σ' H r Q := by
  cases r with
  | ok a => exact f
  | exc c => exact fun H' p => h c H' p (f H' p)
  | stuck => exact f
structure FnD (T : Gam) (ca : XC → Addr) (P : Program) (w : World) (K : PySem.W.Frag) (mg : Str → Option Value) (base : Heap) (k : Nat) (x : Str) (n : Nat) (g : List D → Res D) : Prop where
  ex : ∃ (f : Addr) (fd : FuncData) (ps : List Str), ps.length = n ∧ FnOk P w K mg base (L2N.CX P w) k f fd ps (SpD T ca K n g) ∧ mg x = some (.ref f) ∧ PySem.W.keepIn K (.ref f) = true ∧ L2.Binds K fd ps []
theorem FnD.mono {P : Program} {w : World} {K : PySem.W.Frag} {mg : Str → Option Value} {base : Heap} {j k : Nat} {x : Str} {n : Nat} {g : List D → Res D} (F : FnD T ca P w K mg base j x n g) (h : j ≤ k) : FnD T ca P w K mg base k x n g :=
  let ⟨f, fd, ps, h0, h1, h2, h3, h4⟩ := F.ex; ⟨f, fd, ps, h0, h1.mono h, h2, h3, h4⟩
def mCallN (n : Nat) (g : List D → Res D) (a : Env → Res (List D)) : Ev := fun env => (a env).bind fun ds => if ds.length = n then g ds else .stuck
theorem ie_call {k j n : Nat} {x : Str} {p : Pos} {g : List D → Res D} (F : FnD T ca X.prog X.w X.K X.mg X.base k x n g) (hr : Room j X.A) (hk : k ≤ j) (tk : L2N.Takes X W) (h : IA T ca X W (e :: es) ms) (hg : Gl X x := by rfl) (hdb : (x == ("__debug__" : Str)) = false := by decide)
    (he : starEach (e :: es) X.env = (false, eval e X.env) :: starEach es X.env := by rfl) (hpl : (backTo pos (starEach es X.env)).any (·.1) = false := by rfl) : IE T ca X W (.Call (.Name x p) (e :: es) [] pos) (mCallN n g ms) := by
  obtain ⟨f, fd, ps, hn, F', hm, kp, hb⟩ := F.ex
  refine ⟨pe_imp (pe_callS F' (hr.mono hk) hg hm kp hb (fun σ => L2N.passAt tk σ) h.pa hdb he hpl) fun σ H Q ⟨S, env, lv, rel, fin⟩ => ⟨S, env, lv, rel, Fin.bind (R' := Ra X.K S) fin fun ds vs H1 _ p1 r1 f1 => ?_⟩⟩
  split at f1
  · rename_i hl
    exact ⟨r1.length.trans hl, S, ds, lv.le p1, r1, fin_W f1 fun c H' _ z => z⟩
  · exact f1.elim
theorem ie_call0 {k j : Nat} {x : Str} {p : Pos} {g : List D → Res D} (F : FnD T ca X.prog X.w X.K X.mg X.base k x 0 g) (hr : Room j X.A) (hk : k ≤ j) (hx : ∀ E, Passes (L2N.CX X.prog X.w) X E → True) (tk : L2N.Takes X W) (hW : ∃ E : XK, ∀ c d σ H, W c d σ H ↔ E c d H) (hg : Gl X x := by rfl) (hdb : (x == ("__debug__" : Str)) = false := by decide) :
    IE T ca X W (.Call (.Name x p) [] [] pos) (fun _ => g []) := by
  obtain ⟨f, fd, ps, hn, F', hm, kp, hb⟩ := F.ex
  obtain ⟨E, hE⟩ := hW
  refine ⟨pe_imp (pe_call0 (E := E) F' (hr.mono hk) hg hm kp hb .nil (fun pins σ H s e s' I c => tk e s' (L2N.XE.of_call I (fun cls d H' h => (hE cls d σ H').mpr h) c)) hdb) fun σ H Q ⟨S, env, lv, rel, fin⟩ => ?_⟩
  exact ⟨rfl, S, [], lv, .nil, fin_W fin fun c H' _ z => (hE _ _ _ _).mp z⟩
end

/-! ### what is walked -/
/-- all but what S hides stays -/
def Ky (S : List Addr) (H H' : Hp) : Prop := ∀ b o, b ∉ S → H b = some o → isTbl o = false → H' b = some o
structure Walks (K : PySem.W.Frag) (S : List Addr) (J : It) (H1 : Hp) (ds : List D) : Prop where
  go : ∀ i d H' S', Ky S H1 H' → LiveO S' H' → (∀ p ∈ S', p ∈ S ∨ H1 p = none) → ds[i]? = some d → J.go i H' ∧ ∀ x H'', J.yld i H' x H'' → H'' = H' ∧ Rp K (hide S' H') x d
  stop : ∀ H', Ky S H1 H' → J.stop ds.length H'
theorem Pe.ky {T : Gam} {S : List Addr} {H H' : Hp} (p : Pe T H H') : Ky S H H' := fun b o _ h n => p.st b o h n
theorem Ky.rd {S S' : List Addr} {H H' : Hp} (k : Ky S H H') (h : ∀ p ∈ S', p ∈ S ∨ H p = none) : RdLe (hide S H) (hide S' H') := by
  have ns : ∀ {a : Addr} {u : HO}, hide S H a = some u → a ∉ S' ∧ a ∉ S ∧ H a = some u := fun {a u} e => by
    obtain ⟨h1, h2⟩ := hide_some e
    refine ⟨fun z => ?_, h1, h2⟩
    rcases h a z with q | q
    · exact h1 q
    · rw [h2] at q; cases q
  refine ⟨fun a u hu r => ?_, fun a xs hx r => ?_⟩
  · rcases r with r | ⟨ob, r⟩
    · obtain ⟨h1, h2, h3⟩ := ns r
      exact .inl ((hide_in h1).trans (k a u h2 h3 (isTbl_of_rd hu)))
    · obtain ⟨h1, h2, h3⟩ := ns r
      exact .inr ⟨ob, (hide_in h1).trans (k a _ h2 h3 rfl)⟩
  · obtain ⟨h1, h2, h3⟩ := ns r
    exact (hide_in h1).trans (k a _ h2 h3 (isTbl_of_rigid hx))
def tII (T : Gam) (ca : XC → Addr) (K : PySem.W.Frag) (W : WX) (m : Env → Res (List D)) : TI := fun σ H R => ∃ S env, Live T S H ∧ RelE K (hide S H) env σ ∧ Fin T ca (fun H1 J ds => Walks K S J H1 ds) W σ H (m env) R
structure II (T : Gam) (ca : XC → Addr) (X : Cx) (W : WX) (tg iter : Expr) (m : Env → Res (List D)) : Prop where
  pi : PI X tg iter (tII T ca X.K W m)
def lstOf : D → Option (List D)
  | .list ds => some ds
  | _ => none
def tupOf : D → Option (List D)
  | .tuple ds => some ds
  | _ => none
def strOf : D → Option (List D)
  | .str z => some (z.cps.toList.map fun c => .str ⟨#[c]⟩)
  | _ => none
def mItems (f : D → Option (List D)) (a : Ev) : Env → Res (List D) := fun env => (a env).bind fun d => ofO (f d)
def rngOf : List D → Option (List D)
  | [.int j] => if decide (-(2 ^ 62) ≤ j) && decide (j < 2 ^ 62) = true then some ((List.range j.toNat).map fun (i : Nat) => .int (i : Int)) else none
  | [.int i, .int j] => if decide (-(2 ^ 62) ≤ i) && decide (i < 2 ^ 62) && decide (-(2 ^ 62) ≤ j) && decide (j < 2 ^ 62) = true then some ((List.range (j - i).toNat).map fun (k : Nat) => .int (i + (k : Int))) else none
  | _ => none
def mRng (a : Env → Res (List D)) : Env → Res (List D) := fun env => (a env).bind fun ds => ofO (rngOf ds)
section
variable {T : Gam} {ca : XC → Addr} {X : Cx} {W : WX} {tg e a b : Expr} {pos : Pos} {ma mb : Ev} {ms : Env → Res (List D)} {K : PySem.W.Frag} {S : List Addr} {H : Hp}
theorem pi_imp {w w' : TI} {iter : Expr} (h : PI X tg iter w) (i : ∀ σ H R, w' σ H R → w σ H R) : PI X tg iter w' := ⟨fun pins s σ H R I q => h.run pins s σ H R I (i σ H R q)⟩
theorem sqL_un {p : Addr} {xs : List V} {H' : Hp} (k : Ky S H H') (h : SqL K (hide S H) p xs) : SqL K H' p xs := by
  rcases h with (h | ⟨ob, h⟩) | h
  · obtain ⟨h1, h2⟩ := hide_some h
    exact .inl (.inl (k p _ h1 h2 rfl))
  · obtain ⟨h1, h2⟩ := hide_some h
    exact .inl (.inr ⟨ob, k p _ h1 h2 rfl⟩)
  · exact .inr h
/-- an address holds one list -/
theorem walks_list {p : Addr} {xs : List V} {ds : List D} (h : SqL K (hide S H) p xs) (r : RpAll K (hide S H) xs ds) (hx : ∀ (i : Nat) (v : V), xs[i]? = some v → ∀ H' x H'', (Itl K p).yld i H' x H'' → SqL K H' p xs → x = v) : Walks K S (Itl K p) H ds where
  go := fun i d H' S' k lv ns e => by
    obtain ⟨v, ev, rv⟩ := RpAll.get r e
    have h' := sqL_un k h
    refine ⟨⟨xs, v, h', ev⟩, fun x H'' y => ?_⟩
    have ex := hx i v ev H' x H'' y h'
    subst ex
    exact ⟨y.1, rv.le (k.rd ns)⟩
  stop := fun H' k => ⟨xs, sqL_un k h, by rw [r.length]; exact Nat.le_refl _⟩
theorem ii_list (ha : IE T ca X W a ma) : II T ca X W tg a (mItems lstOf ma) :=
  ⟨pi_imp (pi_list ha.pe) fun σ H R ⟨S, env, lv, rel, fin⟩ => ⟨S, env, lv, rel, Fin.bind (R' := Rv X.K S) fin fun d v H1 _ p1 r1 f1 => by
    obtain ⟨z, hz, w⟩ := f1.some
    cases d <;> cases hz
    obtain ⟨p, xs, rfl, h1, rr⟩ := rp_lst r1
    exact ⟨p, rfl, ⟨xs, sqL_hide h1⟩, w _ H1 .refl (walks_list h1 rr fun i v e H' x H'' y q => by
      have z := y.2 xs q
      rw [e] at z
      exact (Option.some.inj z).symm)⟩⟩⟩
theorem ii_tup (ha : IE T ca X W a ma) : II T ca X W tg a (mItems tupOf ma) :=
  ⟨pi_imp (pi_tup ha.pe) fun σ H R ⟨S, env, lv, rel, fin⟩ => ⟨S, env, lv, rel, Fin.bind (R' := Rv X.K S) fin fun d v H1 _ p1 r1 f1 => by
    obtain ⟨z, hz, w⟩ := f1.some
    cases d <;> cases hz
    obtain ⟨p, xs, rfl, h1, rr⟩ := rp_tup r1
    have sq : ∀ H', Ky S H1 H' → SqT X.K H' p xs := fun H' k => let ⟨h2, h3⟩ := hide_some h1; .inl (.inl (k p _ h2 h3 rfl))
    refine ⟨p, rfl, ⟨xs, sq H1 (Pe.ky (T := T) .refl)⟩, w _ H1 .refl ⟨fun i d H' S' k lv ns e => ?_, fun H' k => ⟨xs, sq H' k, by rw [rr.length]; exact Nat.le_refl _⟩⟩⟩
    obtain ⟨v, ev, rv⟩ := RpAll.get rr e
    refine ⟨⟨xs, v, sq H' k, ev⟩, fun x H'' y => ?_⟩
    have ex := y.2 xs (sq H' k)
    rw [ev] at ex
    cases ex
    exact ⟨y.1, rv.le (k.rd ns)⟩⟩⟩
theorem ii_str (ha : IE T ca X W a ma) : II T ca X W tg a (mItems strOf ma) :=
  ⟨pi_imp (pi_str ha.pe) fun σ H R ⟨S, env, lv, rel, fin⟩ => ⟨S, env, lv, rel, Fin.bind (R' := Rv X.K S) fin fun d v H1 _ p1 r1 f1 => by
    obtain ⟨z, hz, w⟩ := f1.some
    cases d with
    | str t =>
      cases hz
      cases rp_str r1
      refine ⟨t, rfl, w _ H1 .refl ⟨fun i d H' S' k lv ns e => ?_, fun H' k => ?_⟩⟩
      · rw [List.getElem?_map] at e
        obtain ⟨c, hc, rfl⟩ := Option.map_eq_some_iff.mp e
        have hc' : t.cps[i]? = some c := by simpa using hc
        refine ⟨(Array.getElem?_eq_some_iff.mp hc').1, fun x H'' y => ?_⟩
        obtain ⟨y1, c', y2, y3⟩ := y
        rw [hc'] at y2
        cases y2
        subst y3
        exact ⟨y1, .str _⟩
      · show t.cps.size ≤ _
        simp
    | _ => cases hz⟩⟩
theorem walks_rng {lo : Int} {n : Nat} : Walks K S (Itr lo n) H ((List.range n).map fun (k : Nat) => .int (lo + (k : Int))) where
  go := fun i d H' S' k lv ns e => by
    rw [List.getElem?_map] at e
    obtain ⟨c, hc, rfl⟩ := Option.map_eq_some_iff.mp e
    obtain ⟨h1, h2⟩ := List.getElem?_eq_some_iff.mp hc
    rw [List.getElem_range] at h2
    subst h2
    rw [List.length_range] at h1
    exact ⟨h1, fun x H'' ⟨y1, y2⟩ => ⟨y1, by rw [y2]; exact .int _⟩⟩
  stop := fun H' k => by
    show n ≤ _
    simp
theorem ii_rng1 {p : Pos} (hm : X.mg "range" = none) (ha : IA T ca X W [a] ms) (hg : Gl X "range" := by rfl) (hs : starEach [a] X.env = [(false, eval a X.env)] := by rfl) (h1 : ∀ env ds, ms env = .ok ds → ds.length = 1) : II T ca X W tg (.Call (.Name "range" p) [a] [] pos) (mRng ms) :=
  ⟨pi_imp (pi_range1 hg hm ha.pa hs) fun σ H R ⟨S, env, lv, rel, fin⟩ => ⟨S, env, lv, rel, Fin.bind (R' := Ra X.K S) fin fun ds vs H1 e p1 r1 f1 => by
    obtain ⟨z, hz, w⟩ := f1.some
    have hl := h1 env ds e
    unfold rngOf at hz
    split at hz
    · split at hz
      · rename_i hc
        simp only [Bool.and_eq_true, decide_eq_true_eq] at hc
        cases hz
        cases r1 with
        | cons h r =>
          cases r
          cases rp_int h
          refine ⟨_, rfl, hc.1, hc.2, w _ H1 .refl ?_⟩
          have z := walks_rng (K := X.K) (S := S) (H := H1) (lo := 0) (n := (‹Int›).toNat)
          simp only [Int.zero_add] at z
          exact z
      · cases hz
    · cases hl
    · cases hz⟩⟩
theorem ii_rng2 {p : Pos} (hm : X.mg "range" = none) (ha : IA T ca X W [a, b] ms) (hg : Gl X "range" := by rfl) (hs : starEach [a, b] X.env = [(false, eval a X.env), (false, eval b X.env)] := by rfl) (hs2 : starEach [b] X.env = [(false, eval b X.env)] := by rfl) (h2 : ∀ env ds, ms env = .ok ds → ds.length = 2) :
    II T ca X W tg (.Call (.Name "range" p) [a, b] [] pos) (mRng ms) :=
  ⟨pi_imp (pi_range2 hg hm ha.pa hs hs2) fun σ H R ⟨S, env, lv, rel, fin⟩ => ⟨S, env, lv, rel, Fin.bind (R' := Ra X.K S) fin fun ds vs H1 e p1 r1 f1 => by
    obtain ⟨z, hz, w⟩ := f1.some
    have hl := h2 env ds e
    unfold rngOf at hz
    split at hz
    · cases hl
    · split at hz
      · rename_i hc
        simp only [Bool.and_eq_true, decide_eq_true_eq] at hc
        cases hz
        cases r1 with
        | cons h r =>
          cases r with
          | cons h' r =>
            cases r
            cases rp_int h
            cases rp_int h'
            exact ⟨_, _, rfl, ⟨hc.1.1.1, hc.1.1.2, hc.1.2, hc.2⟩, w _ H1 .refl walks_rng⟩
      · cases hz
    · cases hz⟩⟩
theorem len_cons (a : Ev) (r : Env → Res (List D)) (n : Nat) (h : ∀ env ds, r env = .ok ds → ds.length = n) : ∀ env ds, mCons a r env = .ok ds → ds.length = n + 1 := fun env ds e => by
  unfold mCons at e
  cases h1 : a env with
  | ok d =>
    rw [h1] at e
    cases h2 : r env with
    | ok es =>
      simp only [bind_ok, h2] at e
      cases e
      exact congrArg (· + 1) (h env es h2)
    | _ => simp only [bind_ok, h2] at e; cases e
  | _ => rw [h1] at e; cases e
theorem len_nil : ∀ env ds, mNil env = .ok ds → ds.length = 0 := fun env ds e => by cases e; rfl
end
/-! ### comprehensions -/
def noExc {α : Type} : Res α → Res α
  | .ok a => .ok a
  | _ => .stuck
def compLoop (j : Nat) (c : Env → Res Bool) (f : Ev) (env : Env) : List D → Res (List D)
  | [] => .ok []
  | d :: r => (noExc (c (env.set j (some d)))).bind fun b => if b = true then (noExc (f (env.set j (some d)))).bind fun y => (compLoop j c f env r).bind fun ys => .ok (y :: ys) else compLoop j c f env r
def mComp (it : Env → Res (List D)) (j : Nat) (c : Env → Res Bool) (f : Ev) : Ev := fun env => (it env).bind fun ds => if big ds.length = true then (compLoop j c f (env.set j none) ds).bind fun ys => .ok (.list ys) else .stuck
def mYes : Env → Res Bool := fun _ => .ok true
structure ITs (T : Gam) (ca : XC → Addr) (X : Cx) (W : WX) (ifs : List Expr) (m : Env → Res Bool) : Prop where
  pts : PTs X ifs (tIT T ca X.K W m)
section
variable {T : Gam} {ca : XC → Addr} {X : Cx} {W : WX} {tg e a b elt iter : Expr} {pos : Pos} {ma mf : Ev} {mi : Env → Res (List D)} {mc : Env → Res Bool}
theorem its_nil : ITs T ca X W [] mYes := ⟨⟨fun pins s σ H Q I ⟨S, env, lv, rel, fin⟩ => pts_nil.run pins s σ H Q I (fin true H .refl rfl)⟩⟩
theorem its_one {c : Expr} {m : Env → Res Bool} (h : IT T ca X W c m) : ITs T ca X W [c] m := ⟨pts_one h.pt⟩
theorem RelE.set {K : PySem.W.Frag} {G : Hp} {env : Env} {σ : L2.St} {j : Nat} {v : V} {d : D} (r : RelE K G env σ) (h : Rp K G v d) : RelE K G (env.set j (some d)) (σ.set j (some v)) := by
  refine ⟨by rw [List.length_set, List.length_set]; exact r.len, fun i d' e => ?_⟩
  by_cases hj : j = i
  · subst hj
    by_cases hl : j < env.length
    · rw [List.getElem?_set_self hl] at e
      cases e
      exact ⟨v, List.getElem?_set_self (by rw [← r.len]; exact hl), h⟩
    · rw [List.getElem?_eq_none (by rw [List.length_set]; omega)] at e
      cases e
  · rw [List.getElem?_set_ne hj] at e
    rw [List.getElem?_set_ne hj]
    exact r.at_ i d' e
theorem RelE.wipe {K : PySem.W.Frag} {G : Hp} {env : Env} {σ : L2.St} {j : Nat} (r : RelE K G env σ) : RelE K G (env.set j none) (σ.set j none) := by
  refine ⟨by rw [List.length_set, List.length_set]; exact r.len, fun i d' e => ?_⟩
  by_cases hj : j = i
  · subst hj
    by_cases hl : j < env.length
    · rw [List.getElem?_set_self hl] at e
      cases e
    · rw [List.getElem?_eq_none (by rw [List.length_set]; omega)] at e
      cases e
  · rw [List.getElem?_set_ne hj] at e
    rw [List.getElem?_set_ne hj]
    exact r.at_ i d' e
abbrev W0 : WX := fun _ _ _ _ => False
theorem fin_no {α β : Type} {R : Hp → β → α → Prop} {σ σ' : L2.St} {H : Hp} {r : Res α} {Q : β → Hp → Prop} (f : Fin T ca R W σ H (noExc r) Q) : Fin T ca R W0 σ' H r Q := by
  cases r with
  | ok a => exact f
  | exc c => exact f.elim
  | stuck => exact f
/-- the comprehension's loop, from the turn i on -/
theorem comp_run {S : List Addr} {env : Env} {σ : L2.St} {j : Nat} {H0 H1 : Hp} {J : It} {ds : List D} {Q : V → Hp → Prop} {p : Addr} (lv : Live T S H1) (rel : RelE X.K (hide S H1) (env.set j none) (σ.set j none)) (w : Walks X.K S J H1 ds) (hb : big ds.length = true) (hp : H1 p = none)
    (fin : Fin T ca (Rv X.K S) W σ H1 ((compLoop j mc mf (env.set j none) ds).bind fun ys => .ok (.list ys)) Q) :
    ∃ V : Nat → Nat → Hp → Prop, (∃ m, V 0 m (upd H1 p (.lst []))) ∧ ∀ i m H, V i m H → (J.stop i H ∧ Q (.ref p) H) ∨ (J.go i H ∧ ∃ Nx : Hp → Prop, (∀ H', Nx H' → ∃ m', m' < m ∧ V (i + 1) m' H') ∧ ∀ x H', J.yld i H x H' → gName j x (L2.wipe σ [j]) H' fun σ2 H2 => L2.wipe σ2 [j] = L2.wipe σ [j] ∧ tIT T ca X.K W0 mc σ2 H2 fun b H3 =>
      if b = true then tI T ca X.K W0 mf σ2 H3 fun y H4 => ∃ acc, H4 p = some (.lst acc) ∧ acc.length < sizeLine ∧ Nx (upd H4 p (.lst (acc ++ [y]))) else Nx H3) := by
  -- what holds ahead of turn i: the list so far holds ys; from here the loop's answer, put behind ys, is what is wanted
  refine ⟨fun i m H => m = ds.length - i ∧ i ≤ ds.length ∧ ∃ (vs : List V) (ys : List D), H p = some (.lst vs) ∧ RpAll X.K (hide (p :: S) H) vs ys ∧ ys.length ≤ i ∧ Pe T H1 H ∧ Fin T ca (Rv X.K S) W σ H1 ((compLoop j mc mf (env.set j none) (ds.drop i)).bind fun zs => .ok (.list (ys ++ zs))) Q,
    ⟨ds.length, rfl, Nat.zero_le _, [], [], upd_same, .nil, Nat.le_refl _, .new hp, by simpa using fin⟩, ?_⟩
  rintro i m H ⟨rfl, hi, vs, ys, hH, hr, hl, pe, f⟩
  have ky : Ky S H1 H := pe.ky
  have lvH : Live T S H := lv.le pe
  have pS : p ∉ S := lv.no hp
  have lvp : Live T (p :: S) H := ⟨fun a ha => by
    rcases List.mem_cons.mp ha with rfl | ha
    · exact ⟨_, hH, rfl⟩
    · exact lvH.own a ha, lvH.tb⟩
  by_cases hlt : i < ds.length
  · refine .inr ?_
    have ed : ds[i]? = some ds[i] := List.getElem?_eq_getElem hlt
    have edr : ds.drop i = ds[i] :: ds.drop (i + 1) := (List.drop_eq_getElem_cons hlt)
    obtain ⟨g, yl⟩ := w.go i _ H (p :: S) ky lvp.own (fun q hq => (List.mem_cons.mp hq).elim (fun z => .inr (by rw [z]; exact hp)) .inl) ed
    rw [edr] at f
    refine ⟨g, fun H' => i + 1 ≤ ds.length ∧ ∃ (vs : List V) (ys : List D), H' p = some (.lst vs) ∧ RpAll X.K (hide (p :: S) H') vs ys ∧ ys.length ≤ i + 1 ∧ Pe T H1 H' ∧ Fin T ca (Rv X.K S) W σ H1 ((compLoop j mc mf (env.set j none) (ds.drop (i + 1))).bind fun zs => .ok (.list (ys ++ zs))) Q,
      fun H' h => ⟨ds.length - (i + 1), by omega, rfl, h⟩, fun x H' y => ?_⟩
    obtain ⟨rfl, rx⟩ := yl x H' y
    have relH : RelE X.K (hide (p :: S) H') (env.set j none) (σ.set j none) := ⟨rel.len, fun i d e => let ⟨v, h1, h2⟩ := rel.at_ i d e; ⟨v, h1, h2.le (ky.rd fun q hq => (List.mem_cons.mp hq).elim (fun z => .inr (by rw [z]; exact hp)) .inl)⟩⟩
    have rel2 := relH.set (j := j) rx
    rw [List.set_set] at rel2
    have e2 : (L2.wipe σ [j]).set j (some x) = (σ.set j none).set j (some x) := rfl
    have ew : L2.wipe ((L2.wipe σ [j]).set j (some x)) [j] = L2.wipe σ [j] := by
      show (((σ.set j none).set j (some x)).set j none) = σ.set j none
      rw [List.set_set, List.set_set]
    have rel3 : RelE X.K (hide (p :: S) H') ((env.set j none).set j (some ds[i])) ((L2.wipe σ [j]).set j (some x)) := by
      rw [e2, List.set_set, List.set_set]
      rw [List.set_set] at rel2
      exact rel2
    refine ⟨ew, p :: S, (env.set j none).set j (some ds[i]), lvp, rel3, ?_⟩
    unfold compLoop at f
    cases hc : mc ((env.set j none).set j (some ds[i])) with
    | ok b =>
      rw [hc] at f
      intro b' H3 p3 eb
      cases (show b' = b from eb)
      cases b with
      | false =>
        rw [if_neg Bool.false_ne_true]
        exact ⟨hlt, vs, ys, p3.st _ _ hH rfl, hr.le p3.rd, by omega, pe.trans p3, f⟩
      | true =>
        rw [if_pos rfl]
        refine ⟨p :: S, (env.set j none).set j (some ds[i]), lvp.le p3, rel3.le p3, ?_⟩
        cases hf : mf ((env.set j none).set j (some ds[i])) with
        | ok z =>
          intro v H4 p4 rv
          have q4 := p3.trans p4
          refine ⟨vs, q4.st _ _ hH rfl, ?_, hlt, vs ++ [v], ys ++ [z], upd_same, ?_, by rw [List.length_append]; simpa using hl, ?_, ?_⟩
          · have := hr.length
            have := of_decide_eq_true hb
            have : (1000000 : Nat) < sizeLine := by decide
            omega
          · have le : RdLe (hide (p :: S) H4) (hide (p :: S) (upd H4 p (.lst (vs ++ [v])))) := by
              have nq : ∀ {a : Addr} {u : HO}, hide (p :: S) H4 a = some u → hide (p :: S) (upd H4 p (.lst (vs ++ [v]))) a = some u := fun {a u} h => by
                obtain ⟨h1, h2⟩ := hide_some h
                rw [hide_in h1, upd_ne (fun z => h1 (by rw [z]; exact List.mem_cons_self))]
                exact h2
              exact ⟨fun a u _ r => r.imp nq fun ⟨ob, r⟩ => ⟨ob, nq r⟩, fun a xs _ r => nq r⟩
            exact ((hr.le q4.rd).app (.cons rv .nil)).le le
          · refine ⟨fun c o h n => ?_, fun c h => ?_, fun t => ?_⟩
            · rw [upd_ne (ne_of_none h hp)]
              exact (pe.trans q4).st c o h n
            · by_cases hcp : c = p
              · rw [hcp]; exact hp
              · rw [upd_ne hcp] at h
                exact (pe.trans q4).fr c h
            · exact TabC.upd ((pe.trans q4).tb t) (q4.st _ _ hH rfl) rfl rfl
          · rw [hf] at f
            have f : Fin T ca (Rv X.K S) W σ H1 ((((compLoop j mc mf (env.set j none) (ds.drop (i + 1))).bind fun ys => .ok (z :: ys))).bind fun zs => .ok (.list (ys ++ zs))) Q := f
            have e5 : ((compLoop j mc mf (env.set j none) (ds.drop (i + 1))).bind fun ys => (.ok (z :: ys) : Res (List D))).bind (fun zs => (.ok (.list (ys ++ zs)) : Res D)) = (compLoop j mc mf (env.set j none) (ds.drop (i + 1))).bind fun zs => .ok (.list ((ys ++ [z]) ++ zs)) := by
              cases compLoop j mc mf (env.set j none) (ds.drop (i + 1)) with
              | ok zs => simp
              | _ => rfl
            rw [e5] at f
            exact f
        | exc c => rw [hf] at f; exact f.elim
        | stuck => rw [hf] at f; exact f.elim
    | exc c => rw [hc] at f; exact f.elim
    | stuck => rw [hc] at f; exact f.elim
  · have e : i = ds.length := by omega
    subst e
    refine .inl ⟨w.stop H ky, ?_⟩
    rw [List.drop_length] at f
    have f : Fin T ca (Rv X.K S) W σ H1 (.ok (.list (ys ++ []))) Q := f
    rw [List.append_nil] at f
    refine f (.ref p) H pe (.lst (.inl (.inl ((hide_in pS).trans hH))) (hr.le (hide_le fun a ha => List.mem_cons_of_mem _ ha)))
theorem ie_comp {j : Nat} {x : Str} {px : Pos} {scope : Scope} {ifs : List Expr} (hN : X.N.Nodup) (hi : II T ca X W (.Name x px) iter mi) (ok : blkC X.N X.env.scope scope [(x, j)] = true)
    (hg : ∀ (s : Shared) (H : Hp) (C : Addr) (cl : List (Str × Addr)) (fp : List Addr), PG (X.blk s H scope (compEnvC scope cl C X.env) fp) (.Name x px) (gName j))
    (ht : ∀ (s : Shared) (H : Hp) (C : Addr) (cl : List (Str × Addr)) (fp : List Addr), ITs T ca (X.blk s H scope (compEnvC scope cl C X.env) fp) W0 ifs mc)
    (he : ∀ (s : Shared) (H : Hp) (C : Addr) (cl : List (Str × Addr)) (fp : List Addr), IE T ca (X.blk s H scope (compEnvC scope cl C X.env) fp) W0 elt mf) (hc : X.calm = true := by rfl) (hs : ∀ x, foldedSetIterable iter X.env x = pure x := by intro _; rfl) :
    IE T ca X W (.ListComp elt [⟨.Name x px, iter, ifs, 0⟩] scope pos) (mComp mi j mc mf) :=
  ⟨pe_imp (pe_lc (own := [(x, j)]) hc hN hi.pi (blkOk_by ok) hg (fun s H C cl fp => (ht s H C cl fp).pts) (fun s H C cl fp => (he s H C cl fp).pe) hs) fun σ H Q ⟨S, env, lv, rel, fin⟩ => ⟨S, env, lv, rel, Fin.bind (R' := fun H1 J ds => Walks X.K S J H1 ds) fin fun ds J H1 _ p1 w f1 => by
    split at f1
    · rename_i hb
      exact fun p hp => comp_run (T := T) (ca := ca) (X := X) (W := W) (H0 := H) (lv.le p1) (rel.le p1).wipe w hb hp f1
    · exact f1.elim⟩⟩
end
end IL
namespace IL
open PySem PySem.Spec PyProof.Rows L2
/-! ### statements: a name holds a datum, or it owns a list or a dict that it alone may change -/
inductive Ent where
  | val (d : D) | own (d : D)
abbrev SEnv := List (Option Ent)
inductive Out where
  | nx (e : SEnv) | ret (d : D) | brk (e : SEnv) | ct (e : SEnv) | exc (c : XC) | stuck
abbrev Sv := SEnv → Out
/-- what is seen of the names: what is owned is hidden; or seen -/
def hid (env : SEnv) : Env := env.map fun e => match e with
  | some (.val d) => some d
  | _ => none
/-- a dict with texts as keys that a name builds up bears a mark; seen, it does not -/
def mk0 : D × D := (.none, .none)
def strip : D → D
  | .dict ((.none, .none) :: es) => .dict es
  | d => d
def vis (env : SEnv) : Env := env.map fun e => match e with
  | some (.val d) => some d
  | some (.own d) => some (strip d)
  | none => none
/-- the objects that an instance of Looks holds for itself -/
def parts (H : Hp) (p : Addr) : List Addr := match H p with
  | some (.ins _ _ [_, (_, .ref t), (_, .ref k), (_, .ref d)]) => [t, k, d]
  | _ => []
inductive OwnAt (K : PySem.W.Frag) (G H : Hp) (p : Addr) : D → Prop where
  | lst {vs : List V} {ds : List D} (h : H p = some (.lst vs)) (r : RpAll K G vs ds) : OwnAt K G H p (.list ds)
  | dT {kvs : List (List Key × V)} {es : List (D × D)} (h : H p = some (.dT kvs)) (r : RpT K G kvs es) : OwnAt K G H p (.dict es)
  | dK {kvs : List (Key × V)} {es : List (D × D)} (h : H p = some (.dK kvs)) (r : RpK K G kvs es) : OwnAt K G H p (.dict (mk0 :: es))
  | ob {t kn dn : Addr} {kvs : List (Key × V)} {es : List (D × D)} {fresh : Bool} (h : ObAt K H p t kn dn) (ht : H t = some (.dK kvs)) (r : RpK K G kvs es) (hf : fresh = true → H kn = some (.dK []) ∧ H dn = some (.lst [])) : OwnAt K G H p (obD es fresh)
structure RelS (K : PySem.W.Frag) (T : Gam) (H0 : Hp) (S0 os : List Addr) (env : SEnv) (σ : L2.St) (H : Hp) : Prop where
  pe : Pe T H0 H
  lv0 : Live T S0 H0
  lv : Live T (os ++ S0) H
  len : env.length = σ.length
  val : ∀ (i : Nat) (d : D), env[i]? = some (some (.val d)) → ∃ v : V, σ[i]? = some (some v) ∧ Rp K (hide (os ++ S0) H) v d
  own : ∀ (i : Nat) (d : D), env[i]? = some (some (.own d)) → ∃ p : Addr, σ[i]? = some (some (.ref p)) ∧ p ∈ os ∧ OwnAt K (hide (os ++ S0) H) H p d
  fr : ∀ p ∈ os, H0 p = none
  po : ∀ (j : Nat) (e : D) (q : Addr), env[j]? = some (some (.own e)) → σ[j]? = some (some (.ref q)) → ∀ b ∈ parts H q, b ∈ os ∧ ∀ (i : Nat) (d : D), env[i]? = some (some (.own d)) → σ[i]? = some (some (.ref b)) → False
  ap : ∀ (i j : Nat) (d e : D) (p : Addr), env[i]? = some (some (.own d)) → env[j]? = some (some (.own e)) → σ[i]? = some (some (.ref p)) → σ[j]? = some (some (.ref p)) → i = j
def EndS (K : PySem.W.Frag) (T : Gam) (ca : XC → Addr) (W : WX) (D : Ends) (H0 : Hp) (S0 : List Addr) (r : Out) : Prop :=
  match r with
  | .nx e => ∀ os σ H, RelS K T H0 S0 os e σ H → D.nx σ H
  | .brk e => ∀ os σ H, RelS K T H0 S0 os e σ H → D.bk σ H
  | .ct e => ∀ os σ H, RelS K T H0 S0 os e σ H → D.ct σ H
  | .ret d => ∀ v H, Pe T H0 H → Rp K (hide S0 H) v d → D.rt v H
  | .exc c => ∀ σ H, Pe T H0 H → W (.ref (ca c)) none σ H
  | .stuck => False
def tS (K : PySem.W.Frag) (T : Gam) (ca : XC → Addr) (W : WX) (m : Sv) : TS := fun D σ H => ∃ H0 S0 os env, RelS K T H0 S0 os env σ H ∧ EndS K T ca W D H0 S0 (m env)
structure IS (T : Gam) (ca : XC → Addr) (X : Cx) (W : WX) (st : Stmt) (m : Sv) : Prop where
  ps : PS X st (tS X.K T ca W m)
structure ISs (T : Gam) (ca : XC → Addr) (X : Cx) (W : WX) (st : List Stmt) (m : Sv) : Prop where
  ps : PSs X st (tS X.K T ca W m)
section
variable {K : PySem.W.Frag} {T : Gam} {ca : XC → Addr} {W : WX} {D : Ends} {H0 H H1 : Hp} {S0 os : List Addr} {env : SEnv} {σ : L2.St}
theorem ObAt.parts {p t kn dn : Addr} (h : ObAt K H p t kn dn) : parts H p = [t, kn, dn] := by
  obtain ⟨C, dx, n, _, e⟩ := h.ex
  unfold IL.parts
  rw [e]
theorem OwnAt.le {G G' : Hp} {p : Addr} {d : IL.D} (o : OwnAt K G H p d) (l : RdLe G G') (h : ∀ b u, b = p ∨ b ∈ parts H p → H b = some u → isTbl u = false → H1 b = some u) : OwnAt K G' H1 p d := by
  cases o with
  | lst e r => exact .lst (h p _ (.inl rfl) e rfl) (r.le l)
  | dT e r => exact .dT (h p _ (.inl rfl) e rfl) (r.le l)
  | dK e r => exact .dK (h p _ (.inl rfl) e rfl) (r.le l)
  | @ob t kn dn _ _ _ ho ht r hf =>
    have hp := ho.parts
    obtain ⟨C, dx, n, e1, e2⟩ := ho.ex
    exact .ob ⟨C, dx, n, e1, h p _ (.inl rfl) e2 rfl⟩ (h t _ (.inr (by rw [hp]; simp)) ht rfl) (r.le l) fun z => ⟨h kn _ (.inr (by rw [hp]; simp)) (hf z).1 rfl, h dn _ (.inr (by rw [hp]; simp)) (hf z).2 rfl⟩
theorem OwnAt.at_ {G : Hp} {p : Addr} {d : IL.D} (o : OwnAt K G H p d) : ∃ u, H p = some u ∧ isTbl u = false := by
  cases o with
  | lst e r => exact ⟨_, e, rfl⟩
  | dT e r => exact ⟨_, e, rfl⟩
  | dK e r => exact ⟨_, e, rfl⟩
  | ob ho _ _ _ => obtain ⟨C, dx, n, e1, e2⟩ := ho.ex; exact ⟨_, e2, rfl⟩
theorem parts_eq {H H1 : Hp} {p : Addr} {u : HO} (h : H p = some u) (h1 : H1 p = some u) : parts H1 p = parts H p := by
  unfold parts
  rw [h, h1]
theorem parts_no {H : Hp} {p : Addr} {o : HO} (h : H p = some o) (n : rigid o = false) : parts H p = [] := by
  unfold parts
  rw [h]
  cases o <;> first | rfl | cases n
theorem RelS.le (r : RelS K T H0 S0 os env σ H) (p : Pe T H H1) : RelS K T H0 S0 os env σ H1 where
  pe := r.pe.trans p
  lv0 := r.lv0
  lv := r.lv.le p
  len := r.len
  val := fun i d e => let ⟨v, h1, h2⟩ := r.val i d e; ⟨v, h1, h2.le p.rd⟩
  own := fun i d e => let ⟨q, h1, h2, h3⟩ := r.own i d e; ⟨q, h1, h2, h3.le p.rd fun b u _ e n => p.st b u e n⟩
  fr := r.fr
  po := fun j e q e1 e2 b hb => by
    obtain ⟨q', h1, _, h3⟩ := r.own j e e1
    rw [e2] at h1
    cases h1
    obtain ⟨u, hu, hn⟩ := h3.at_
    rw [parts_eq hu (p.st q u hu hn)] at hb
    exact r.po j e q e1 e2 b hb
  ap := r.ap
theorem get_map {α β : Type} {f : α → β} {l : List α} {i : Nat} {y : β} (h : (l.map f)[i]? = some y) : ∃ x, l[i]? = some x ∧ f x = y := by
  rw [List.getElem?_map] at h
  exact Option.map_eq_some_iff.mp h
theorem RelS.hidE (r : RelS K T H0 S0 os env σ H) : RelE K (hide (os ++ S0) H) (hid env) σ := by
  refine ⟨by unfold hid; rw [List.length_map]; exact r.len, fun i d e => ?_⟩
  obtain ⟨x, h1, h2⟩ := get_map e
  match x, h2 with
  | some (.val _), h2 => cases h2; exact r.val i d h1
theorem RelS.notS (r : RelS K T H0 S0 os env σ H) {p : Addr} (h : p ∈ os) : p ∉ S0 := r.lv0.no (r.fr p h)
theorem RelS.liveS (r : RelS K T H0 S0 os env σ H) : Live T S0 H := r.lv0.le r.pe
theorem OwnAt.rp {p : Addr} {d : IL.D} {S : List Addr} {G : Hp} (o : OwnAt K G H p d) (h : p ∉ S) (hpt : ∀ b ∈ parts H p, b ∉ S) (l : RdLe G (hide S H)) : Rp K (hide S H) (.ref p) (strip d) := by
  cases o with
  | lst e r => exact .lst (.inl (.inl ((hide_in h).trans e))) (r.le l)
  | dT e r =>
    cases r with
    | nil => exact .dT (.inl ((hide_in h).trans e)) .nil
    | cons h' r => exact .dT (.inl ((hide_in h).trans e)) ((RpT.cons h' r).le l)
  | dK e r => exact .dK (.inl ((hide_in h).trans e)) (r.le l)
  | @ob t kn dn kvs es fresh ho ht r hf =>
    have hp := ho.parts
    obtain ⟨C, dx, n, e1, e2⟩ := ho.ex
    have i : ∀ b ∈ [t, kn, dn], b ∉ S := fun b hb => hpt b (by rw [hp]; exact hb)
    exact .ob ⟨C, dx, n, e1, (hide_in h).trans e2⟩ (.inl ((hide_in (i t (by simp))).trans ht)) (r.le l) fun z => ⟨.inl ((hide_in (i kn (by simp))).trans (hf z).1), .inl ((hide_in (i dn (by simp))).trans (hf z).2)⟩
theorem RelS.visE (r : RelS K T H0 S0 os env σ H) : RelE K (hide S0 H) (vis env) σ := by
  refine ⟨by unfold vis; rw [List.length_map]; exact r.len, fun i d e => ?_⟩
  have l : RdLe (hide (os ++ S0) H) (hide S0 H) := hide_le fun a h => List.mem_append_right _ h
  obtain ⟨x, h1, h2⟩ := get_map e
  match x, h2 with
  | some (.val _), h2 =>
    cases h2
    obtain ⟨v, h3, h4⟩ := r.val i d h1
    exact ⟨v, h3, h4.le l⟩
  | some (.own d'), h2 =>
    cases h2
    obtain ⟨p, h3, h4, h5⟩ := r.own i d' h1
    exact ⟨_, h3, h5.rp (r.notS h4) (fun b hb => r.notS (r.po i d' p h1 h3 b hb).1) l⟩
/-- a name gets a datum -/
theorem RelS.set (r : RelS K T H0 S0 os env σ H) {v : V} {d : IL.D} (h : Rp K (hide (os ++ S0) H) v d) (i : Nat) : RelS K T H0 S0 os (env.set i (some (.val d))) (σ.set i (some v)) H := by
  have at_ : ∀ {j : Nat} {x : Ent}, (env.set i (some (.val d)))[j]? = some (some x) → (j = i ∧ i < env.length ∧ x = .val d) ∨ (j ≠ i ∧ env[j]? = some (some x)) := fun {j x} e => by
    by_cases hj : i = j
    · subst hj
      by_cases hl : i < env.length
      · rw [List.getElem?_set_self hl] at e
        cases e
        exact .inl ⟨rfl, hl, rfl⟩
      · rw [List.getElem?_eq_none (by rw [List.length_set]; omega)] at e
        cases e
    · rw [List.getElem?_set_ne hj] at e
      exact .inr ⟨fun z => hj z.symm, e⟩
  refine ⟨r.pe, r.lv0, r.lv, by rw [List.length_set, List.length_set]; exact r.len, fun j d' e => ?_, fun j d' e => ?_, r.fr, fun j e q e1 e2 b hb => ?_, fun j k d1 d2 p e1 e2 e3 e4 => ?_⟩
  · rcases at_ e with ⟨rfl, hl, q⟩ | ⟨hj, e⟩
    · cases q
      exact ⟨v, List.getElem?_set_self (by rw [← r.len]; exact hl), h⟩
    · obtain ⟨w, h1, h2⟩ := r.val j d' e
      exact ⟨w, (List.getElem?_set_ne (fun z => hj z.symm)).trans h1, h2⟩
  · rcases at_ e with ⟨_, _, q⟩ | ⟨hj, e⟩
    · cases q
    · obtain ⟨w, h1, h2⟩ := r.own j d' e
      exact ⟨w, (List.getElem?_set_ne (fun z => hj z.symm)).trans h1, h2⟩
  · rcases at_ e1 with ⟨_, _, z⟩ | ⟨hj, e1⟩
    · cases z
    rw [List.getElem?_set_ne (fun z => hj z.symm)] at e2
    obtain ⟨g1, g2⟩ := r.po j e q e1 e2 b hb
    refine ⟨g1, fun k d2 k1 k2 => ?_⟩
    rcases at_ k1 with ⟨_, _, z⟩ | ⟨hk, k1⟩
    · cases z
    rw [List.getElem?_set_ne (fun z => hk z.symm)] at k2
    exact g2 k d2 k1 k2
  · rcases at_ e1 with ⟨_, _, q⟩ | ⟨hj, e1⟩
    · cases q
    rcases at_ e2 with ⟨_, _, q⟩ | ⟨hk, e2⟩
    · cases q
    rw [List.getElem?_set_ne (fun z => hj z.symm)] at e3
    rw [List.getElem?_set_ne (fun z => hk z.symm)] at e4
    exact r.ap j k d1 d2 p e1 e2 e3 e4
/-- a name gets a new object of its own -/
theorem RelS.newOwn (r : RelS K T H0 S0 os env σ H) {p : Addr} {o : HO} {d : IL.D} (hp : H p = none) (ho : isOwn o = true) (h : OwnAt K (hide (os ++ S0) H) (upd H p o) p d) (i : Nat) (no : rigid o = false := by rfl) : RelS K T H0 S0 (p :: os) (env.set i (some (.own d))) (σ.set i (some (.ref p))) (upd H p o) := by
  have pn : Pe T H (upd H p o) := .new hp (isTbl_of_own ho)
  have l : RdLe (hide (os ++ S0) H) (hide (p :: os ++ S0) (upd H p o)) := by
    have q : ∀ {a : Addr} {u : HO}, hide (os ++ S0) H a = some u → hide (p :: os ++ S0) (upd H p o) a = some u := fun {a u} e => by
      obtain ⟨h1, h2⟩ := hide_some e
      have ne : a ≠ p := ne_of_none h2 hp
      rw [hide_in (by intro z; rcases List.mem_cons.mp z with z | z; exact ne z; exact h1 z), upd_ne ne]
      exact h2
    exact ⟨fun a u _ r => r.imp q fun ⟨ob, r⟩ => ⟨ob, q r⟩, fun a xs _ r => q r⟩
  have at_ : ∀ {j : Nat} {x : Ent}, (env.set i (some (.own d)))[j]? = some (some x) → (j = i ∧ i < env.length ∧ x = .own d) ∨ (j ≠ i ∧ env[j]? = some (some x)) := fun {j x} e => by
    by_cases hj : i = j
    · subst hj
      by_cases hl : i < env.length
      · rw [List.getElem?_set_self hl] at e
        cases e
        exact .inl ⟨rfl, hl, rfl⟩
      · rw [List.getElem?_eq_none (by rw [List.length_set]; omega)] at e
        cases e
    · rw [List.getElem?_set_ne hj] at e
      exact .inr ⟨fun z => hj z.symm, e⟩
  have nos : ∀ q ∈ os, q ≠ p := fun q hq => by
    obtain ⟨u, e, _⟩ := r.lv.own q (List.mem_append_left _ hq)
    exact ne_of_none e hp
  refine ⟨r.pe.trans pn, r.lv0, ⟨fun a ha => ?_, pn.tb r.lv.tb⟩, by rw [List.length_set, List.length_set]; exact r.len, fun j d' e => ?_, fun j d' e => ?_, fun q hq => ?_, fun j e q e1 e2 b hb => ?_, fun j k d1 d2 q e1 e2 e3 e4 => ?_⟩
  · rcases List.mem_cons.mp ha with rfl | ha
    · exact ⟨o, upd_same, ho⟩
    · exact (r.lv.le pn).own a ha
  · rcases at_ e with ⟨_, _, q⟩ | ⟨hj, e⟩
    · cases q
    · obtain ⟨w, h1, h2⟩ := r.val j d' e
      exact ⟨w, (List.getElem?_set_ne (fun z => hj z.symm)).trans h1, h2.le l⟩
  · rcases at_ e with ⟨rfl, hl, q⟩ | ⟨hj, e⟩
    · cases q
      exact ⟨p, List.getElem?_set_self (by rw [← r.len]; exact hl), List.mem_cons_self, h.le l fun _ u _ e _ => e⟩
    · obtain ⟨w, h1, h2, h3⟩ := r.own j d' e
      exact ⟨w, (List.getElem?_set_ne (fun z => hj z.symm)).trans h1, List.mem_cons_of_mem _ h2, h3.le l fun b u _ e _ => by rw [upd_ne (ne_of_none e hp)]; exact e⟩
  · rcases List.mem_cons.mp hq with rfl | hq
    · exact r.pe.fr _ hp
    · exact r.fr q hq
  · rcases at_ e1 with ⟨hj, hl1, q1⟩ | ⟨hj, e1'⟩
    · rw [hj, List.getElem?_set_self (by rw [← r.len]; exact hl1)] at e2
      cases e2
      rw [parts_no upd_same no] at hb
      cases hb
    · rw [List.getElem?_set_ne (fun z => hj z.symm)] at e2
      obtain ⟨w, h1, h2, h3⟩ := r.own j e e1'
      rw [h1] at e2
      cases e2
      obtain ⟨u, hu, _⟩ := h3.at_
      rw [parts_eq hu ((upd_ne (nos _ h2)).trans hu)] at hb
      obtain ⟨g1, g2⟩ := r.po j e _ e1' h1 b hb
      refine ⟨List.mem_cons_of_mem _ g1, fun k d2 k1 k2 => ?_⟩
      rcases at_ k1 with ⟨hk, hl2, _⟩ | ⟨hk, k1⟩
      · rw [hk, List.getElem?_set_self (by rw [← r.len]; exact hl2)] at k2
        cases k2
        exact nos _ g1 rfl
      · rw [List.getElem?_set_ne (fun z => hk z.symm)] at k2
        exact g2 k d2 k1 k2
  · rcases at_ e1 with ⟨hj, hl1, q1⟩ | ⟨hj, e1'⟩
    · rcases at_ e2 with ⟨hk, _, q2⟩ | ⟨hk, e2'⟩
      · rw [hj, hk]
      · rw [hj, List.getElem?_set_self (by rw [← r.len]; exact hl1)] at e3
        cases e3
        rw [List.getElem?_set_ne (fun z => hk z.symm)] at e4
        obtain ⟨w, h1, h2, _⟩ := r.own k d2 e2'
        rw [h1] at e4
        cases e4
        exact absurd rfl (nos _ h2)
    · rw [List.getElem?_set_ne (fun z => hj z.symm)] at e3
      rcases at_ e2 with ⟨hk, hl2, q2⟩ | ⟨hk, e2'⟩
      · rw [hk, List.getElem?_set_self (by rw [← r.len]; exact hl2)] at e4
        cases e4
        obtain ⟨w, h1, h2, _⟩ := r.own j d1 e1'
        rw [h1] at e3
        cases e3
        exact absurd rfl (nos _ h2)
      · rw [List.getElem?_set_ne (fun z => hk z.symm)] at e4
        exact r.ap j k d1 d2 q e1' e2' e3 e4
/-- an owned object is changed -/
theorem RelS.putOwn (r : RelS K T H0 S0 os env σ H) {p : Addr} {o : HO} {d d' : IL.D} {i : Nat} (he : env[i]? = some (some (.own d))) (hσ : σ[i]? = some (some (.ref p))) (hp : p ∈ os) (ho : isOwn o = true) (h : OwnAt K (hide (os ++ S0) H) (upd H p o) p d') (no : rigid o = false := by rfl) : RelS K T H0 S0 os (env.set i (some (.own d'))) σ (upd H p o) := by
  obtain ⟨u0, hu0, hu1⟩ := r.lv.own p (List.mem_append_left _ hp)
  have tu : TabC T (upd H p o) := TabC.upd r.lv.tb hu0 (isTbl_of_own hu1) (fix_of_own hu1)
  have hid_eq : hide (os ++ S0) (upd H p o) = hide (os ++ S0) H := by
    funext a
    unfold hide
    split
    · rfl
    · exact upd_ne fun z => (by assumption : ¬ a ∈ os ++ S0) (by rw [z]; exact List.mem_append_left _ hp)
  have hl : i < env.length := (List.getElem?_eq_some_iff.mp he).1
  have at_ : ∀ {j : Nat} {x : Ent}, (env.set i (some (.own d')))[j]? = some (some x) → (j = i ∧ x = .own d') ∨ (j ≠ i ∧ env[j]? = some (some x)) := fun {j x} e => by
    by_cases hj : i = j
    · subst hj
      rw [List.getElem?_set_self hl] at e
      cases e
      exact .inl ⟨rfl, rfl⟩
    · rw [List.getElem?_set_ne hj] at e
      exact .inr ⟨fun z => hj z.symm, e⟩
  have own' : ∀ {j : Nat} {e : IL.D}, (env.set i (some (.own d')))[j]? = some (some (.own e)) → ∃ e', env[j]? = some (some (.own e')) := fun {j e} q => by
    rcases at_ q with ⟨rfl, _⟩ | ⟨_, q⟩
    · exact ⟨d, he⟩
    · exact ⟨e, q⟩
  refine ⟨⟨fun b u e n => ?_, fun b e => ?_, fun _ => tu⟩, r.lv0, ⟨fun a ha => ?_, tu⟩, by rw [List.length_set]; exact r.len, fun j e q => ?_, fun j e q => ?_, r.fr, fun j e q e1 e2 b hb => ?_, fun j k d1 d2 q e1 e2 e3 e4 => ?_⟩
  · rw [upd_ne (ne_of_none e (r.fr p hp))]
    exact r.pe.st b u e n
  · by_cases hb : b = p
    · rw [hb]; exact r.fr p hp
    · rw [upd_ne hb] at e
      exact r.pe.fr b e
  · by_cases hb : a = p
    · rw [hb]; exact ⟨o, upd_same, ho⟩
    · rw [upd_ne hb]; exact r.lv.own a ha
  · rcases at_ q with ⟨_, q⟩ | ⟨_, q⟩
    · cases q
    · rw [hid_eq]; exact r.val j e q
  · rw [hid_eq]
    rcases at_ q with ⟨hj, q'⟩ | ⟨hj, q'⟩
    · cases q'
      exact ⟨p, by rw [hj]; exact hσ, hp, h⟩
    · obtain ⟨w, h1, h2, h3⟩ := r.own j e q'
      have npart : ∀ {b : Addr}, b = w ∨ b ∈ parts H w → b ≠ p := fun {b} hb z => by
        subst z
        rcases hb with z | z
        · exact hj (r.ap j i e d w q' he h1 (by rw [← z]; exact hσ))
        · exact (r.po j e w q' h1 b z).2 i d he hσ
      have nw : w ≠ p := fun z => hj (r.ap j i e d p q' he (by rw [← z]; exact h1) hσ)
      exact ⟨w, h1, h2, h3.le ⟨fun _ _ _ h => h, fun _ _ _ h => h⟩ fun b u hb e _ => by rw [upd_ne (npart hb)]; exact e⟩
  · obtain ⟨e', q1⟩ := own' e1
    by_cases hq : q = p
    · rw [hq, parts_no upd_same no] at hb
      cases hb
    · obtain ⟨w, h1, h2, h3⟩ := r.own j e' q1
      rw [h1] at e2
      cases e2
      obtain ⟨u, hu, _⟩ := h3.at_
      rw [parts_eq hu ((upd_ne hq).trans hu)] at hb
      obtain ⟨g1, g2⟩ := r.po j e' _ q1 h1 b hb
      exact ⟨g1, fun k d2 k1 k2 => let ⟨d3, k3⟩ := own' k1; g2 k d3 k3 k2⟩
  · obtain ⟨d1', q1⟩ := own' e1
    obtain ⟨d2', q2⟩ := own' e2
    exact r.ap j k d1' d2' q q1 q2 e3 e4
end
/-! ### rules -/
def liftR {α : Type} (r : Res α) (k : α → Out) : Out := match r with
  | .ok a => k a
  | .exc c => .exc c
  | .stuck => .stuck
def mSeq (a b : Sv) : Sv := fun env => match a env with
  | .nx e => b e
  | o => o
def mSkip : Sv := fun env => .nx env
def sAsg (i : Nat) (m : Ev) : Sv := fun env => liftR (m (hid env)) fun d => .nx (env.set i (some (.val d)))
/-- .. read off what is owned: a number, a bool, a text, None -/
def scal1 : D → Bool
  | .none => true
  | .bool _ => true
  | .int _ => true
  | .str _ => true
  | _ => false
def sAsgV (i : Nat) (m : Ev) : Sv := fun env => liftR (m (vis env)) fun d => if scal1 d = true then .nx (env.set i (some (.val d))) else .stuck
def sOwnL (i : Nat) (m : Env → Res (List D)) : Sv := fun env => liftR (m (hid env)) fun ds => if big ds.length = true then .nx (env.set i (some (.own (.list ds)))) else .stuck
def sOwnD (i : Nat) : Sv := fun env => .nx (env.set i (some (.own (.dict []))))
def sApp (i : Nat) (m : Ev) : Sv := fun env => match env[i]? with
  | some (some (.own (.list ds))) => liftR (m (hid env)) fun d => if big ds.length = true then .nx (env.set i (some (.own (.list (ds ++ [d]))))) else .stuck
  | _ => .stuck
def putT (es : List (D × D)) (k : List Key) (d : D) : List (D × D) := if (es.any fun e => decide (keyT e.1 = some k)) = true then es.map (fun e => if keyT e.1 = some k then (e.1, d) else e) else es ++ [(.tuple (k.map kD), d)]
def sPut (i : Nat) (mv mk : Ev) : Sv := fun env => liftR (mv (hid env)) fun d => liftR (mk (hid env)) fun k => match env[i]?, keyT k with
  | some (some (.own (.dict es))), some kk => if big es.length = true then .nx (env.set i (some (.own (.dict (putT es kk d))))) else .stuck
  | _, _ => .stuck
def sIf (t : Env → Res Bool) (a b : Sv) : Sv := fun env => liftR (t (vis env)) fun x => if x = true then a env else b env
def sRet (m : Ev) : Sv := fun env => liftR (m (vis env)) .ret
def sExpr (m : Ev) : Sv := fun env => liftR (m (hid env)) fun _ => .nx env
def sRaise (c : XC) : Sv := fun _ => .exc c
def forLoop (i : Nat) (b : Sv) : List D → SEnv → Out
  | [], env => .nx env
  | d :: r, env => match b (env.set i (some (.val d))) with
    | .nx e => forLoop i b r e
    | .ct e => forLoop i b r e
    | .brk e => .nx e
    | o => o
def sFor (m : Env → Res (List D)) (i : Nat) (b : Sv) : Sv := fun env => liftR (m (hid env)) fun ds => forLoop i b ds env
section
variable {T : Gam} {ca : XC → Addr} {X : Cx} {W : WX} {st : Stmt} {rest : List Stmt} {e a b : Expr} {es : List Expr} {pos pos' : Pos} {m m' : Sv} {me mk : Ev} {ms : Env → Res (List D)} {mt : Env → Res Bool}
theorem ps_imp {t t' : TS} (h : PS X st t) (i : ∀ D σ H, t' D σ H → t D σ H) : PS X st t' := ⟨fun pins s σ H D I q => h.run pins s σ H D I (i D σ H q)⟩
theorem pss_imp {st : List Stmt} {t t' : TS} (h : PSs X st t) (i : ∀ D σ H, t' D σ H → t D σ H) : PSs X st t' := ⟨fun pins s σ H D I q => h.run pins s σ H D I (i D σ H q)⟩
theorem iss_nil : ISs T ca X W [] mSkip := ⟨pss_imp pss_nil fun D σ H ⟨H0, S0, os, env, rel, fin⟩ => fin os σ H rel⟩
theorem iss_cons (h : IS T ca X W st m) (h' : ISs T ca X W rest m') : ISs T ca X W (st :: rest) (mSeq m m') :=
  ⟨pss_imp (pss_cons h.ps h'.ps) fun D σ H ⟨H0, S0, os, env, rel, fin⟩ => ⟨H0, S0, os, env, rel, by
    unfold mSeq at fin
    cases hm : m env with
    | nx e => rw [hm] at fin; exact fun os' σ' H' r' => ⟨H0, S0, os', e, r', fin⟩
    | _ => rw [hm] at fin; exact fin⟩⟩
theorem iss_one (h : IS T ca X W st m) : ISs T ca X W [st] m := ⟨pss_one h.ps⟩
/-- an expression seen with what is owned hidden -/
theorem fin_hid {α β : Type} {R : Hp → β → α → Prop} {D : Ends} {H0 H : Hp} {S0 os : List Addr} {env : SEnv} {σ : L2.St} {r : Res α} {k : α → Out} {Q : β → Hp → Prop} (rel : RelS X.K T H0 S0 os env σ H) (fin : EndS X.K T ca W D H0 S0 (liftR r k))
    (h : ∀ a b H1, Pe T H H1 → RelS X.K T H0 S0 os env σ H1 → R H1 b a → EndS X.K T ca W D H0 S0 (k a) → Q b H1) : Fin T ca R W σ H r Q := by
  cases r with
  | ok a => exact fun b H1 p rr => h a b H1 p (rel.le p) rr fin
  | exc c => exact fun H1 p => fin σ H1 (rel.pe.trans p)
  | stuck => exact fin
theorem is_asg {i : Nat} {x : Str} (hN : X.N.Nodup) (h : IE T ca X W e me) (hi : X.N[i]? = some x := by rfl) (hx : Loc X.env.scope x := by first | exact Or.inl rfl | exact Or.inr rfl) (hs : swapsWith e (some (.Name x pos')) pos.line X.env = pure false := by rfl) (hf : X.fn x = true ∨ X.env.scope.names.lookup x = some .local := by first | exact .inl rfl | exact .inr rfl) :
    IS T ca X W (.Assign [.Name x pos'] e pos) (sAsg i me) :=
  ⟨ps_imp (ps_set hN hi hx h.pe hs hf) fun D σ H ⟨H0, S0, os, env, rel, fin⟩ => ⟨os ++ S0, hid env, rel.lv, rel.hidE, fin_hid (R := Rv X.K (os ++ S0)) rel fin fun d v H1 p rel1 rv f => f os _ H1 (rel1.set rv i)⟩⟩
theorem is_asgV {i : Nat} {x : Str} (hN : X.N.Nodup) (h : IE T ca X W e me) (hi : X.N[i]? = some x := by rfl) (hx : Loc X.env.scope x := by first | exact Or.inl rfl | exact Or.inr rfl) (hs : swapsWith e (some (.Name x pos')) pos.line X.env = pure false := by rfl) (hf : X.fn x = true ∨ X.env.scope.names.lookup x = some .local := by first | exact .inl rfl | exact .inr rfl) :
    IS T ca X W (.Assign [.Name x pos'] e pos) (sAsgV i me) :=
  ⟨ps_imp (ps_set hN hi hx h.pe hs hf) fun D σ H ⟨H0, S0, os, env, rel, fin⟩ => ⟨S0, vis env, rel.liveS, rel.visE, fin_hid (R := Rv X.K S0) rel fin fun d v H1 p rel1 rv f => by
    split at f
    · refine f os _ H1 (rel1.set ?_ i)
      cases rv <;> first | exact .non | exact .bl _ | exact .int _ | exact .str _ | (rename_i hh; cases hh)
    · exact f.elim⟩⟩
theorem is_ownL {i : Nat} {x : Str} {lp : Pos} (hN : X.N.Nodup) (h : IA T ca X W es ms) (hi : X.N[i]? = some x := by rfl) (hx : Loc X.env.scope x := by first | exact Or.inl rfl | exact Or.inr rfl) (hs : swapsWith (.List es lp) (some (.Name x pos')) pos.line X.env = pure false := by rfl) (hf : X.fn x = true ∨ X.env.scope.names.lookup x = some .local := by first | exact .inl rfl | exact .inr rfl) :
    IS T ca X W (.Assign [.Name x pos'] (.List es lp) pos) (sOwnL i ms) :=
  ⟨ps_imp (ps_set hN hi hx (pe_lst h.pa) hs hf) fun D σ H ⟨H0, S0, os, env, rel, fin⟩ => ⟨os ++ S0, hid env, rel.lv, rel.hidE, fin_hid (R := Ra X.K (os ++ S0)) rel fin fun ds vs H1 p rel1 rv f => by
    split at f
    · exact ⟨by rw [rv.length]; exact big_ok (by assumption), fun q hq => f _ _ _ (rel1.newOwn hq rfl (.lst upd_same rv) i)⟩
    · exact f.elim⟩⟩
theorem is_ownD {i : Nat} {x : Str} {lp : Pos} (hN : X.N.Nodup) (hi : X.N[i]? = some x := by rfl) (hx : Loc X.env.scope x := by first | exact Or.inl rfl | exact Or.inr rfl) (hs : swapsWith (.Dict [] [] lp) (some (.Name x pos')) pos.line X.env = pure false := by rfl) (hf : X.fn x = true ∨ X.env.scope.names.lookup x = some .local := by first | exact .inl rfl | exact .inr rfl) :
    IS T ca X W (.Assign [.Name x pos'] (.Dict [] [] lp) pos) (sOwnD i) :=
  ⟨ps_imp (ps_set hN hi hx pe_dnewT hs hf) fun D σ H ⟨H0, S0, os, env, rel, fin⟩ q hq => fin _ _ _ (rel.newOwn hq rfl (.dT upd_same .nil) i)⟩
theorem hid_own {env : SEnv} {i : Nat} : True := trivial
theorem is_app {i : Nat} {x : Str} {px apos cpos : Pos} (h : IE T ca X W e me) (hi : X.N[i]? = some x := by rfl) (hv : Vis X.env.scope x := by first | exact Or.inl rfl | exact Or.inr (Or.inl rfl) | exact Or.inr (Or.inr rfl)) (hd : (x == ("__debug__" : Str)) = false := by decide) (hcd : (x == ("__classdict__" : Str)) = false := by decide)
    (hst : starEach [e] X.env = (false, eval e X.env) :: starEach [] X.env := by rfl) (hpl : (backTo cpos (starEach [] X.env)).any (·.1) = false := by rfl) (hbase : attributeBase (.Name x px) "append" X.env (eval (.Name x px) X.env) = eval (.Name x px) X.env := by rfl) (hline : (apos.endLine == cpos.line) = true := by rfl) (hs : swapsWith (.Call (.Attribute (.Name x px) "append" apos) [e] [] cpos) none pos.line X.env = pure false := by rfl) :
    IS T ca X W (.Expr (.Call (.Attribute (.Name x px) "append" apos) [e] [] cpos) pos) (sApp i me) :=
  ⟨ps_imp (ps_expr (pe_bm PySem.F.plainAttrs_list PySem.F.slot_list_append PySem.F.type_list_append mt_append (pe_var hi hv hd hcd) (pa_cons h.pe pa_nil hst) (hbase := hbase) (hline := hline) (hs := hst) (hfew := by rw [hst]; rfl)) hs) fun D σ H ⟨H0, S0, os, env, rel, fin⟩ => by
    have look : ∀ {ds : List IL.D}, env[i]? = some (some (.own (.list ds))) → ∃ (p : Addr) (vs : List V), σ[i]? = some (some (.ref p)) ∧ p ∈ os ∧ H p = some (.lst vs) ∧ RpAll X.K (hide (os ++ S0) H) vs ds := fun {ds} he => by
      obtain ⟨p, h1, h2, h3⟩ := rel.own i _ he
      cases h3 with
      | lst e r => exact ⟨p, _, h1, h2, e, r⟩
    unfold sApp at fin
    split at fin
    · rename_i ds he
      obtain ⟨p, vs, h1, h2, h3, h4⟩ := look he
      refine ⟨.ref p, h1, .inl ⟨rfl, vs, .inl (.inl h3)⟩, os ++ S0, hid env, rel.lv, rel.hidE, fin_hid (R := Rv X.K (os ++ S0)) rel fin fun d v H1 p1 rel1 rv f => ?_⟩
      split at f
      · rename_i hb
        obtain ⟨q, g1, g2, g3⟩ := rel1.own i _ he
        rw [h1] at g1
        cases g1
        cases g3 with
        | @lst vs' _ g4 g5 =>
          refine ⟨p, vs', v, rfl, rfl, g4, ?_, f _ _ _ (rel1.putOwn he h1 g2 rfl (.lst upd_same (g5.app (.cons rv .nil))))⟩
          have := g5.length
          have := of_decide_eq_true hb
          have : (1000000 : Nat) < sizeLine := by decide
          omega
      · exact f.elim
    · exact fin.elim⟩
end
end IL
namespace IL
open PySem PySem.Spec PyProof.Rows L2
section
variable {T : Gam} {ca : XC → Addr} {X : Cx} {W : WX} {st : Stmt} {rest sa sb : List Stmt} {e a b c : Expr} {es : List Expr} {pos pos' : Pos} {m m' : Sv} {me mk : Ev} {ms : Env → Res (List D)} {mt : Env → Res Bool}
theorem is_if (hc : IT T ca X W c mt) (ha : ISs T ca X W sa m) (hb : ISs T ca X W sb m') : IS T ca X W (.If c sa sb pos) (sIf mt m m') :=
  ⟨ps_imp (ps_if hc.pt ha.ps hb.ps) fun D σ H ⟨H0, S0, os, env, rel, fin⟩ => ⟨S0, vis env, rel.liveS, rel.visE, fin_hid (R := Rb) rel fin fun d v H1 p rel1 rv f => by
    cases (show v = d from rv)
    cases d with
    | true => rw [if_pos rfl] at f ⊢; exact ⟨H0, S0, os, env, rel1, f⟩
    | false => rw [if_neg Bool.false_ne_true] at f ⊢; exact ⟨H0, S0, os, env, rel1, f⟩⟩⟩
theorem is_ret (h : IE T ca X W e me) : IS T ca X W (.Return (some e) pos) (sRet me) :=
  ⟨ps_imp (ps_ret h.pe) fun D σ H ⟨H0, S0, os, env, rel, fin⟩ => ⟨S0, vis env, rel.liveS, rel.visE, fin_hid (R := Rv X.K S0) rel fin fun d v H1 p rel1 rv f => f v H1 rel1.pe rv⟩⟩
theorem is_expr (h : IE T ca X W e me) (hs : swapsWith e none pos.line X.env = pure false := by rfl) : IS T ca X W (.Expr e pos) (sExpr me) :=
  ⟨ps_imp (ps_expr h.pe hs) fun D σ H ⟨H0, S0, os, env, rel, fin⟩ => ⟨os ++ S0, hid env, rel.lv, rel.hidE, fin_hid (R := Rv X.K (os ++ S0)) rel fin fun d v H1 p rel1 rv f => f os σ H1 rel1⟩⟩
/-- raise X('..'), X an own class -/
theorem is_raise {x : Str} {msg : Str} {j : Nat} {p p2 pos2 : Pos} {bm : List Value} {B newId initId : String} {cls : XC} (F : ExcBaseFacts B newId initId bm) (q : PySem.W.excIn X.K (ca cls) bm newId = true) (gC : X.mg x = some (.ref (ca cls))) (kC : PySem.W.keepIn X.K (.ref (ca cls)) = true) (r : Raises X (.ref (ca cls))) (tk : L2N.Takes X W)
    (hc : X.calm = true := by rfl) (hg : Gl X x := by rfl) (hdb : (x == ("__debug__" : Str)) = false := by decide) : IS T ca X W (.Raise (some (.Call (.Name x p) [.Constant (.str msg) j p2] [] pos2)) none pos) (sRaise cls) :=
  ⟨ps_imp (L2N.ps_raise hc tk (L2N.pmk_own F q gC kC r hg hdb)) fun D σ H ⟨H0, S0, os, env, rel, fin⟩ => fin σ H rel.pe⟩
/-- a statement that no way reaches -/
theorem is_never {st : Stmt} : IS T ca X W st (fun _ => .stuck) := ⟨ps_imp ps_never fun D σ H ⟨H0, S0, os, env, rel, fin⟩ => fin.elim⟩
/-! ### loops -/
/-- the state at a loop's head, seen as an entry of its own -/
theorem Pe.base {H0 H1 H2 : Hp} {os S0 : List Addr} {env : SEnv} {σ : L2.St} (r : RelS X.K T H0 S0 os env σ H1) (p : Pe T (hide os H1) H2) : Pe T H0 H2 := by
  have no : ∀ b u, H0 b = some u → b ∉ os := fun b u e z => by rw [r.fr b z] at e; cases e
  refine ⟨fun b u e n => p.st b u ((hide_in (no b u e)).trans (r.pe.st b u e n)) n, fun b e => ?_, fun t => p.tb ?_⟩
  · by_cases hb : b ∈ os
    · exact r.fr b hb
    · have z := p.fr b e
      rw [hide_in hb] at z
      exact r.pe.fr b z
  · exact (r.pe.tb t).hide fun a ha => r.lv.own a (List.mem_append_left _ ha)
theorem Pe.hideT {H : Hp} {os : List Addr} (h : LiveO os H) : Pe T (hide os H) H := by
  refine ⟨fun b u e _ => (hide_some e).2, fun b e => ?_, fun t => t.unhide h⟩
  unfold hide
  split
  · rfl
  · exact e
theorem RelS.base {H0 H1 : Hp} {os S0 : List Addr} {env : SEnv} {σ : L2.St} (r : RelS X.K T H0 S0 os env σ H1) : RelS X.K T (hide os H1) S0 os env σ H1 :=
  have lo : LiveO os H1 := fun a ha => r.lv.own a (List.mem_append_left _ ha)
  ⟨Pe.hideT lo, ⟨fun a ha => let ⟨o, h1, h2⟩ := r.liveS.own a ha; ⟨o, (hide_in fun z => r.notS z ha).trans h1, h2⟩, r.lv.tb.hide lo⟩, r.lv, r.len, r.val, r.own, fun p hp => if_pos hp, r.po, r.ap⟩
theorem RelS.unbase {H0 H1 H2 : Hp} {os os' S0 : List Addr} {env env' : SEnv} {σ σ' : L2.St} (r : RelS X.K T H0 S0 os env σ H1) (q : RelS X.K T (hide os H1) S0 os' env' σ' H2) : RelS X.K T H0 S0 os' env' σ' H2 := by
  refine ⟨Pe.base r q.pe, r.lv0, q.lv, q.len, q.val, q.own, fun p hp => ?_, q.po, q.ap⟩
  by_cases hb : p ∈ os
  · exact r.fr p hb
  · have z := q.fr p hp
    rw [hide_in hb] at z
    exact r.pe.fr p z
theorem EndS.base {D : Ends} {H0 H1 : Hp} {os S0 : List Addr} {env : SEnv} {σ : L2.St} {r : Out} (rel : RelS X.K T H0 S0 os env σ H1) (f : EndS X.K T ca W D H0 S0 r) : EndS X.K T ca W D (hide os H1) S0 r := by
  cases r with
  | nx e => exact fun os' σ' H' q => f os' σ' H' (rel.unbase q)
  | brk e => exact fun os' σ' H' q => f os' σ' H' (rel.unbase q)
  | ct e => exact fun os' σ' H' q => f os' σ' H' (rel.unbase q)
  | ret d => exact fun v H' p r => f v H' (Pe.base rel p) r
  | exc c => exact fun σ' H' p => f σ' H' (Pe.base rel p)
  | stuck => exact f
/-- the loop from its head on -/
theorem for_run {D : Ends} {Hb H1 : Hp} {os S0 : List Addr} {env : SEnv} {σ : L2.St} {i : Nat} {J : It} {ds : List IL.D} (rel : RelS X.K T Hb S0 os env σ H1) (hb : ∀ b, b ∉ os → Hb b = H1 b) (w : Walks X.K (os ++ S0) J H1 ds) (fin : EndS X.K T ca W D Hb S0 (forLoop i m ds env)) :
    ∃ V : Nat → Nat → L2.St → Hp → Prop, (∃ k, V 0 k σ H1) ∧ ∀ n k σ H, V n k σ H → (J.stop n H ∧ D.nx σ H) ∨ (J.go n H ∧ ∃ N : L2.St → Hp → Prop, (∀ σ' H', N σ' H' → ∃ k', k' < k ∧ V (n + 1) k' σ' H') ∧ ∀ x H', J.yld n H x H' → gName i x σ H' fun σ2 H2 => tS X.K T ca W m { D with nx := N, ct := N, bk := D.nx } σ2 H2) := by
  refine ⟨fun n k σ H => k = ds.length - n ∧ n ≤ ds.length ∧ ∃ os' env', RelS X.K T Hb S0 os' env' σ H ∧ EndS X.K T ca W D Hb S0 (forLoop i m (ds.drop n) env'), ⟨ds.length, rfl, Nat.zero_le _, os, env, rel, fin⟩, ?_⟩
  rintro n k σ' H ⟨rfl, hn, os', env', rel', f⟩
  have ky : Ky (os ++ S0) H1 H := fun b o nb e n => rel'.pe.st b o ((hb b fun z => nb (List.mem_append_left _ z)).trans e) n
  by_cases hlt : n < ds.length
  · refine .inr ?_
    have ed : ds[n]? = some ds[n] := List.getElem?_eq_getElem hlt
    rw [List.drop_eq_getElem_cons hlt] at f
    have ns : ∀ p ∈ os' ++ S0, p ∈ os ++ S0 ∨ H1 p = none := fun p hp => by
      rcases List.mem_append.mp hp with hp | hp
      · have z := rel'.fr p hp
        by_cases ho : p ∈ os
        · exact .inl (List.mem_append_left _ ho)
        · rw [hb p ho] at z
          exact .inr z
      · exact .inl (List.mem_append_right _ hp)
    obtain ⟨g, yl⟩ := w.go n _ H (os' ++ S0) ky rel'.lv.own ns ed
    refine ⟨g, fun σ H => n + 1 ≤ ds.length ∧ ∃ os' env', RelS X.K T Hb S0 os' env' σ H ∧ EndS X.K T ca W D Hb S0 (forLoop i m (ds.drop (n + 1)) env'), fun σ H h => ⟨ds.length - (n + 1), by omega, rfl, h⟩, fun x H' y => ?_⟩
    obtain ⟨rfl, rx⟩ := yl x H' y
    refine ⟨Hb, S0, os', env'.set i (some (.val ds[n])), rel'.set rx i, ?_⟩
    unfold forLoop at f
    cases hm : m (env'.set i (some (.val ds[n]))) with
    | nx e => rw [hm] at f; exact fun os2 σ2 H2 q => ⟨hlt, os2, e, q, f⟩
    | ct e => rw [hm] at f; exact fun os2 σ2 H2 q => ⟨hlt, os2, e, q, f⟩
    | brk e => rw [hm] at f; exact f
    | ret d => rw [hm] at f; exact f
    | exc c => rw [hm] at f; exact f
    | stuck => rw [hm] at f; exact f
  · have e : n = ds.length := by omega
    subst e
    rw [List.drop_length] at f
    exact .inl ⟨w.stop H ky, f os' σ' H rel'⟩
theorem is_for {i : Nat} {x : Str} {px : Pos} (hp : PassesOwn (model X.prog X.w) X.A X.env X.xe) (hN : X.N.Nodup) (hi : II T ca X W (.Name x px) e ms) (hb : ISs T ca X W sb m) (hix : X.N[i]? = some x := by rfl) (hx : Loc X.env.scope x := by first | exact Or.inl rfl | exact Or.inr rfl) (hf : X.fn x = true ∨ X.env.scope.names.lookup x = some .local := by first | exact .inl rfl | exact .inr rfl)
    (hc : X.calm = true := by rfl) (hs : ∀ x, foldedSetIterable e X.env x = pure x := by intro _; rfl) : IS T ca X W (.For (.Name x px) e sb [] pos) (sFor ms i m) :=
  ⟨ps_imp (ps_for hp hc hi.pi (pg_name hN hix hx hf) hb.ps hs) fun D σ H ⟨H0, S0, os, env, rel, fin⟩ => ⟨os ++ S0, hid env, rel.lv, rel.hidE, fin_hid (R := fun H1 J ds => Walks X.K (os ++ S0) J H1 ds) rel fin fun ds J H1 p rel1 w f =>
    for_run rel1.base (fun b hb => hide_in hb) w (EndS.base rel1 f)⟩⟩
/-! #### .. over a dict's keys -/
theorem rpAll_kD {K : PySem.W.Frag} {G : Hp} : ∀ k : List Key, RpAll K G (k.map kV) (k.map kD)
  | [] => .nil
  | .inl i :: k => .cons (.int i) (rpAll_kD k)
  | .inr i :: k => .cons (.str i) (rpAll_kD k)
theorem rp_kD {K : PySem.W.Frag} {G : Hp} : ∀ k : Key, Rp K G (kV k) (kD k)
  | .inl i => .int i
  | .inr i => .str i
theorem RpT.len {K : PySem.W.Frag} {G : Hp} : ∀ {kvs : List (List Key × V)} {es : List (D × D)}, RpT K G kvs es → kvs.length = es.length
  | _, _, .nil => rfl
  | _, _, .cons _ r => congrArg (· + 1) r.len
theorem RpK.len {K : PySem.W.Frag} {G : Hp} : ∀ {kvs : List (Key × V)} {es : List (D × D)}, RpK K G kvs es → kvs.length = es.length
  | _, _, .nil => rfl
  | _, _, .cons _ r => congrArg (· + 1) r.len
theorem RpT.key {K : PySem.W.Frag} {G : Hp} : ∀ {kvs : List (List Key × V)} {es : List (D × D)} {i : Nat} {k : List Key} {v : V}, RpT K G kvs es → kvs[i]? = some (k, v) → ∃ d, es[i]? = some (.tuple (k.map kD), d) ∧ Rp K G v d
  | _, _, _, _, _, .nil, e => by simp at e
  | _, _, 0, _, _, .cons h _, e => by
    simp at e
    obtain ⟨rfl, rfl⟩ := e
    exact ⟨_, rfl, h⟩
  | _, _, i + 1, _, _, .cons _ r, e => by
    obtain ⟨d, h1, h2⟩ := RpT.key (i := i) r (by simpa using e)
    exact ⟨d, by simpa using h1, h2⟩
theorem RpK.key {K : PySem.W.Frag} {G : Hp} : ∀ {kvs : List (Key × V)} {es : List (D × D)} {i : Nat} {k : Key} {v : V}, RpK K G kvs es → kvs[i]? = some (k, v) → ∃ d, es[i]? = some (kD k, d) ∧ Rp K G v d
  | _, _, _, _, _, .nil, e => by simp at e
  | _, _, 0, _, _, .cons h _, e => by
    simp at e
    obtain ⟨rfl, rfl⟩ := e
    exact ⟨_, rfl, h⟩
  | _, _, i + 1, _, _, .cons _ r, e => by
    obtain ⟨d, h1, h2⟩ := RpK.key (i := i) r (by simpa using e)
    exact ⟨d, by simpa using h1, h2⟩
theorem walks_T {K : PySem.W.Frag} {S : List Addr} {H : Hp} {G : Hp} {d : Addr} {o : Obj} {kvs : List (List Key × V)} {es : List (D × D)} (hd : d ∉ S) (h : H d = some (.frz o (.dT kvs))) (r : RpT K G kvs es) : Walks K S (Itkt d o kvs) H (es.map (·.1)) where
  go := fun i x H' S' k lv ns e => by
    have h' : H' d = some (.frz o (.dT kvs)) := k d _ hd h rfl
    obtain ⟨y, ey, rfl⟩ := get_map e
    have hl : i < kvs.length := by rw [r.len]; exact (List.getElem?_eq_some_iff.mp ey).1
    refine ⟨⟨h', hl⟩, fun v H'' yl => ?_⟩
    obtain ⟨eH, kk, vv, q, e1, rfl, hq⟩ := yl
    obtain ⟨d', e2, _⟩ := r.key e1
    rw [ey] at e2
    cases e2
    exact ⟨eH, .tup ((hide_in (lv.tup hq)).trans hq) (rpAll_kD kk)⟩
  stop := fun H' k => ⟨k d _ hd h rfl, by rw [List.length_map, r.len]; exact Nat.le_refl _⟩
theorem walks_K {K : PySem.W.Frag} {S : List Addr} {H : Hp} {G : Hp} {d : Addr} {o : Obj} {kvs : List (Key × V)} {es : List (D × D)} (hd : d ∉ S) (h : H d = some (.frz o (.dK kvs))) (r : RpK K G kvs es) : Walks K S (Itk d o kvs) H (es.map (·.1)) where
  go := fun i x H' S' k lv ns e => by
    have h' : H' d = some (.frz o (.dK kvs)) := k d _ hd h rfl
    obtain ⟨y, ey, rfl⟩ := get_map e
    have hl : i < kvs.length := by rw [r.len]; exact (List.getElem?_eq_some_iff.mp ey).1
    refine ⟨⟨h', hl⟩, fun v H'' yl => ?_⟩
    obtain ⟨eH, kk, vv, e1, rfl⟩ := yl
    obtain ⟨d', e2, _⟩ := r.key e1
    rw [ey] at e2
    cases e2
    exact ⟨eH, rp_kD kk⟩
  stop := fun H' k => ⟨k d _ hd h rfl, by rw [List.length_map, r.len]; exact Nat.le_refl _⟩
/-! a dict locked, and let go -/
section
variable {H : Hp} {d : Addr} {u : HO} {o : Obj} {S : List Addr}
theorem lock_rd (h : H d = some u) (mu : isDat u = true) (nt : ∀ xs, u ≠ .tup xs) : RdLe (hide S H) (hide S (upd H d (.frz o u))) := by
  refine ⟨fun a w hw r => ?_, fun a xs hx r => ?_⟩
  · rcases r with r | ⟨ob, r⟩
    · obtain ⟨h1, h2⟩ := hide_some r
      by_cases e : a = d
      · subst e
        rw [h] at h2
        cases h2
        exact .inr ⟨o, (hide_in h1).trans upd_same⟩
      · exact .inl ((hide_in h1).trans ((upd_ne e).trans h2))
    · obtain ⟨h1, h2⟩ := hide_some r
      by_cases e : a = d
      · subst e
        rw [h] at h2
        cases h2
        cases mu
      · exact .inr ⟨ob, (hide_in h1).trans ((upd_ne e).trans h2)⟩
  · obtain ⟨h1, h2⟩ := hide_some r
    have e : a ≠ d := fun e => by
      subst e
      rw [h] at h2
      cases Option.some.inj h2
      cases u <;> first | exact nt _ rfl | (cases hx; done) | (cases mu; done)
    exact (hide_in h1).trans ((upd_ne e).trans h2)
theorem unlock_rd (h : H d = some (.frz o u)) : RdLe (hide S H) (hide S (upd H d u)) := by
  refine ⟨fun a w hw r => ?_, fun a xs hx r => ?_⟩
  · rcases r with r | ⟨ob, r⟩
    · obtain ⟨h1, h2⟩ := hide_some r
      by_cases e : a = d
      · subst e
        rw [h] at h2
        cases h2
        cases hw
      · exact .inl ((hide_in h1).trans ((upd_ne e).trans h2))
    · obtain ⟨h1, h2⟩ := hide_some r
      by_cases e : a = d
      · subst e
        rw [h] at h2
        cases h2
        exact .inl ((hide_in h1).trans upd_same)
      · exact .inr ⟨ob, (hide_in h1).trans ((upd_ne e).trans h2)⟩
  · obtain ⟨h1, h2⟩ := hide_some r
    have e : a ≠ d := fun e => by
      subst e
      rw [h] at h2
      cases h2
      cases hx
    exact (hide_in h1).trans ((upd_ne e).trans h2)
/-- from the locked heap on, and unlocked: as if it had not been locked -/
theorem fix_of_rd {u : HO} (h : isDat u = true) (nt : ∀ xs, u ≠ .tup xs) : fixO u = false := by
  cases u <;> first | rfl | exact absurd rfl (nt _) | cases h
theorem Pe.lock {H' : Hp} (h : H d = some u) (hu : isDat u = true) (nt : ∀ xs, u ≠ .tup xs) (p : Pe T (upd H d (.frz o u)) H') : H' d = some (.frz o u) ∧ Pe T H (upd H' d u) := by
  have e := p.st d _ upd_same rfl
  refine ⟨e, fun b w hb n => ?_, fun b hb => ?_, fun t => ?_⟩
  · by_cases q : b = d
    · subst q
      rw [h] at hb
      cases hb
      exact upd_same
    · rw [upd_ne q]
      exact p.st b w ((upd_ne q).trans hb) n
  · by_cases q : b = d
    · subst q
      rw [upd_same] at hb
      cases hb
    · rw [upd_ne q] at hb
      have z := p.fr b hb
      rw [upd_ne q] at z
      exact z
  · exact TabC.upd (p.tb (t.upd h (isTbl_of_rd hu) (fix_of_rd hu nt))) e rfl rfl
end
theorem dict_rp {K : PySem.W.Frag} {S : List Addr} {H : Hp} {v : V} {es : List (IL.D × IL.D)} (h : Rp K (hide S H) v (.dict es)) (no : isOb (.dict es) = false) : ∃ a, v = .ref a ∧ a ∉ S ∧ ((∃ kvs, Rd H a (.dT kvs) ∧ RpT K (hide S H) kvs es) ∨ ∃ kvs, Rd H a (.dK kvs) ∧ RpK K (hide S H) kvs es) := by
  have nn : ∀ {a : Addr} {u : HO}, Rd (hide S H) a u → a ∉ S := fun {a u} r => by
    rcases r with r | ⟨o, r⟩
    · exact (hide_some r).1
    · exact (hide_some r).1
  cases h with
  | dT h r => exact ⟨_, rfl, nn h, .inl ⟨_, rd_hide h, r⟩⟩
  | dK h r => exact ⟨_, rfl, nn h, .inr ⟨_, rd_hide h, r⟩⟩
  | ob => cases no
def dictOf : D → Option (List D)
  | .dict es => some (es.map (·.1))
  | _ => none
end
/-- for x in d: body, d a name's dict; no exception leaves the body -/
def noExcO : Out → Out
  | .exc _ => .stuck
  | o => o
def sForD (k : Nat) (i : Nat) (b : Sv) : Sv := fun env => match env[k]? with
  | some (some (.val (.dict es))) => if isOb (.dict es) = true then .stuck else noExcO (forLoop i b (es.map (·.1)) env)
  | _ => .stuck
section
variable {T : Gam} {ca : XC → Addr} {X : Cx} {W : WX} {sb : List Stmt} {pos : Pos} {m : Sv}
theorem ps_or {st : Stmt} {t t' : TS} (h : PS X st t) (h' : PS X st t') : PS X st (fun D σ H => t D σ H ∨ t' D σ H) := ⟨fun pins s σ H D I q => q.elim (h.run pins s σ H D I) (h'.run pins s σ H D I)⟩
theorem end_noExc {D : Ends} {H0 : Hp} {S0 : List Addr} {r : Out} (f : EndS X.K T ca W D H0 S0 (noExcO r)) : EndS X.K T ca W D H0 S0 r := by
  cases r <;> first | exact f | exact f.elim
/-- the locked loop, given back -/
theorem lock_run {D : Ends} {H0 H : Hp} {os S0 : List Addr} {env : SEnv} {σ : L2.St} {i : Nat} {d : Addr} {u : HO} {od : Obj} {ds : List IL.D} {J : It} (rel : RelS X.K T H0 S0 os env σ H) (hu : H d = some u) (mu : Mut (some u)) (du : isDat u = true) (nt : ∀ xs, u ≠ .tup xs) (hdS : d ∉ os ++ S0)
    (w : Walks X.K (os ++ S0) J (upd H d (.frz od u)) ds) (fin : EndS X.K T ca W D H0 S0 (noExcO (forLoop i m ds env))) :
    ∃ V : Nat → Nat → L2.St → Hp → Prop, (∃ k, V 0 k σ (upd H d (.frz od u))) ∧ ∀ n k σ H, V n k σ H → (J.stop n H ∧ (H d = some (.frz od u) ∧ D.nx σ (upd H d u))) ∨ (J.go n H ∧ ∃ N : L2.St → Hp → Prop, (∀ σ' H', N σ' H' → ∃ k', k' < k ∧ V (n + 1) k' σ' H') ∧ ∀ x H', J.yld n H x H' → gName i x σ H' fun σ2 H2 =>
      tS X.K T ca W m { nx := N, rt := fun v H' => H' d = some (.frz od u) ∧ D.rt v (upd H' d u), ct := N, bk := fun σ' H' => H' d = some (.frz od u) ∧ D.nx σ' (upd H' d u) } σ2 H2) := by
  have dos : d ∉ os := fun z => hdS (List.mem_append_left _ z)
  -- the locked state
  have ll : RdLe (hide (os ++ S0) H) (hide (os ++ S0) (upd H d (.frz od u))) := lock_rd hu du nt
  have lvl : ∀ {S : List Addr}, Live T S H → Live T S (upd H d (.frz od u)) := fun {S} l => ⟨fun a ha => by
    by_cases q : a = d
    · exact ⟨_, by rw [q]; exact upd_same, rfl⟩
    · rw [upd_ne q]
      exact l.own a ha, l.tb.upd hu (isTbl_of_rd du) (fix_of_rd du nt)⟩
  have lol : LiveO os (upd H d (.frz od u)) := fun a ha => (lvl rel.lv).own a (List.mem_append_left _ ha)
  have relL : RelS X.K T (hide os (upd H d (.frz od u))) S0 os env σ (upd H d (.frz od u)) := by
    refine ⟨Pe.hideT lol, ⟨fun a ha => ?_, (lvl rel.lv).tb.hide lol⟩, lvl rel.lv, rel.len, fun j e q => ?_, fun j e q => ?_, fun p hp => if_pos hp, fun j e q e1 e2 b hb => ?_, rel.ap⟩
    · obtain ⟨o, h1, h2⟩ := (lvl rel.liveS).own a ha
      exact ⟨o, (hide_in fun z => rel.notS z ha).trans h1, h2⟩
    · obtain ⟨w, h1, h2⟩ := rel.val j e q
      exact ⟨w, h1, h2.le ll⟩
    · obtain ⟨w, h1, h2, h3⟩ := rel.own j e q
      exact ⟨w, h1, h2, h3.le ll fun b x hb e _ => (upd_ne fun z => dos (by
        rw [← z]
        rcases hb with hb | hb
        · rw [hb]; exact h2
        · exact (rel.po j _ w q h1 b hb).1)).trans e⟩
    · obtain ⟨w, h1, h2, h3⟩ := rel.own j e e1
      rw [h1] at e2
      cases e2
      obtain ⟨x, hx, _⟩ := h3.at_
      rw [parts_eq hx ((upd_ne fun z => dos (by rw [← z]; exact h2)).trans hx)] at hb
      exact rel.po j e _ e1 h1 b hb
  -- from there on, unlocked
  have pk : ∀ {H' : Hp}, Pe T (hide os (upd H d (.frz od u))) H' → H' d = some (.frz od u) ∧ Pe T (hide os H) (upd H' d u) := fun {H'} p => by
    have e1 : hide os (upd H d (.frz od u)) = upd (hide os H) d (.frz od u) := by
      funext a
      by_cases q : a = d
      · subst q
        rw [hide_in dos, upd_same, upd_same]
      · rw [upd_ne q]
        unfold hide
        split
        · rfl
        · rw [upd_ne q]
    rw [e1] at p
    exact Pe.lock ((hide_in dos).trans hu) du nt p
  have un : ∀ {os' : List Addr} {env' : SEnv} {σ' : L2.St} {H' : Hp}, RelS X.K T (hide os (upd H d (.frz od u))) S0 os' env' σ' H' → H' d = some (.frz od u) ∧ RelS X.K T H0 S0 os' env' σ' (upd H' d u) := fun {os' env' σ' H'} r => by
    obtain ⟨e, p⟩ := pk r.pe
    have dos' : d ∉ os' := fun z => by
      have q := r.fr d z
      rw [hide_in dos, upd_same] at q
      cases q
    have l2 : RdLe (hide (os' ++ S0) H') (hide (os' ++ S0) (upd H' d u)) := unlock_rd e
    refine ⟨e, RelS.unbase rel ⟨p, rel.base.lv0, ⟨fun a ha => ?_, r.lv.tb.upd e rfl rfl⟩, r.len, fun j x q => ?_, fun j x q => ?_, fun q hq => ?_, fun j x q e1 e2 b hb => ?_, r.ap⟩⟩
    · by_cases q : a = d
      · refine ⟨u, by rw [q]; exact upd_same, ?_⟩
        cases u <;> first | rfl | (exact mu.elim) | (cases du)
      · rw [upd_ne q]
        exact r.lv.own a ha
    · obtain ⟨w, h1, h2⟩ := r.val j x q
      exact ⟨w, h1, h2.le l2⟩
    · obtain ⟨w, h1, h2, h3⟩ := r.own j x q
      exact ⟨w, h1, h2, h3.le l2 fun b y hb e _ => (upd_ne fun z => dos' (by
        rw [← z]
        rcases hb with hb | hb
        · rw [hb]; exact h2
        · exact (r.po j _ w q h1 b hb).1)).trans e⟩
    · have z := r.fr q hq
      have qd : q ≠ d := fun e => dos' (by rw [← e]; exact hq)
      by_cases qo : q ∈ os
      · exact if_pos qo
      · rw [hide_in qo, upd_ne qd] at z
        rw [hide_in qo]
        exact z
    · obtain ⟨w, h1, h2, h3⟩ := r.own j x e1
      rw [h1] at e2
      cases e2
      obtain ⟨y, hy, _⟩ := h3.at_
      have wd : q ≠ d := fun z => dos' (by rw [← z]; exact h2)
      rw [parts_eq hy ((upd_ne wd).trans hy)] at hb
      exact r.po j _ _ e1 h1 b hb
  refine for_run (D := { nx := fun σ' H' => H' d = some (.frz od u) ∧ D.nx σ' (upd H' d u), rt := fun v H' => H' d = some (.frz od u) ∧ D.rt v (upd H' d u), bk := fun σ' H' => H' d = some (.frz od u) ∧ D.bk σ' (upd H' d u), ct := fun σ' H' => H' d = some (.frz od u) ∧ D.ct σ' (upd H' d u) }) relL (fun b hb => hide_in hb) w ?_
  cases hr : forLoop i m ds env with
  | nx e => rw [hr] at fin; exact fun os' σ' H' r => ⟨(un r).1, fin os' σ' _ (un r).2⟩
  | brk e => rw [hr] at fin; exact fun os' σ' H' r => ⟨(un r).1, fin os' σ' _ (un r).2⟩
  | ct e => rw [hr] at fin; exact fun os' σ' H' r => ⟨(un r).1, fin os' σ' _ (un r).2⟩
  | ret z =>
    rw [hr] at fin
    exact fun v' H' p rv' => ⟨(pk p).1, fin v' _ (Pe.base rel (pk p).2) (rv'.le (unlock_rd (pk p).1))⟩
  | exc c => rw [hr] at fin; exact fin.elim
  | stuck => rw [hr] at fin; exact fin.elim
theorem is_forD {i k : Nat} {x y : Str} {px py : Pos} (hp : PassesOwn (model X.prog X.w) X.A X.env X.xe) (hN : X.N.Nodup) (hb : ISs T ca X W sb m) (hky : X.N[k]? = some y := by rfl) (hvy : Vis X.env.scope y := by first | exact Or.inl rfl | exact Or.inr (Or.inl rfl) | exact Or.inr (Or.inr rfl)) (hix : X.N[i]? = some x := by rfl) (hx : Loc X.env.scope x := by first | exact Or.inl rfl | exact Or.inr rfl)
    (hf : X.fn x = true ∨ X.env.scope.names.lookup x = some .local := by first | exact .inl rfl | exact .inr rfl) (hc : X.calm = true := by rfl) (hs : ∀ z, foldedSetIterable (.Name y py) X.env z = pure z := by intro _; rfl) (hd : (y == ("__debug__" : Str)) = false := by decide) (hcd : (y == ("__classdict__" : Str)) = false := by decide) :
    IS T ca X W (.For (.Name x px) (.Name y py) sb [] pos) (sForD k i m) :=
  ⟨ps_imp (ps_or (ps_lock (ps_for hp hc (pi_keys (pe_var (pos := py) hky hvy hd hcd)) (pg_name hN hix hx hf) hb.ps hs)) (ps_for hp hc (pi_keys (pe_var (pos := py) hky hvy hd hcd)) (pg_name hN hix hx hf) hb.ps hs)) fun D σ H ⟨H0, S0, os, env, rel, fin⟩ => by
    unfold sForD at fin
    split at fin
    · rename_i es he
      split at fin
      · exact fin.elim
      rename_i no
      obtain ⟨v, hv, rv⟩ := rel.val k _ he
      obtain ⟨d, rfl, hdS, hdd⟩ := dict_rp rv (by simpa using no)
      rcases hdd with ⟨kvs, r1 | ⟨o1, r1⟩, r2⟩ | ⟨kvs, r1 | ⟨o1, r1⟩, r2⟩
      · exact .inl ⟨d, _, r1, True.intro, fun od => ⟨_, hv, d, od, rfl, .inr ⟨kvs, upd_same, lock_run rel r1 True.intro rfl (fun xs z => by cases z) hdS (walks_T hdS upd_same r2) fin⟩⟩⟩
      · exact .inr ⟨_, hv, d, o1, rfl, .inr ⟨kvs, r1, for_run rel.base (fun b hb => hide_in hb) (walks_T hdS r1 r2) (EndS.base rel (end_noExc fin))⟩⟩
      · exact .inl ⟨d, _, r1, True.intro, fun od => ⟨_, hv, d, od, rfl, .inl ⟨kvs, upd_same, lock_run rel r1 True.intro rfl (fun xs z => by cases z) hdS (walks_K hdS upd_same r2) fin⟩⟩⟩
      · exact .inr ⟨_, hv, d, o1, rfl, .inl ⟨kvs, r1, for_run rel.base (fun b hb => hide_in hb) (walks_K hdS r1 r2) (EndS.base rel (end_noExc fin))⟩⟩
    · exact fin.elim⟩
end
/-! ### a def -/
def outR : Out → Res D
  | .nx _ => .ok .none
  | .ret d => .ok d
  | .exc c => .exc c
  | _ => .stuck
def startE (n : Nat) (ds : List D) : SEnv := ds.map (fun d => some (.val d)) ++ List.replicate (n - ds.length) none
section
variable {T : Gam} {ca : XC → Addr} {P : Program} {w : World} {K : PySem.W.Frag} {mg : Str → Option Value} {base : Heap}
theorem start_rel {H : Hp} {S : List Addr} {vs : List V} {ds : List D} {N : List Str} (lv : Live T S H) (r : RpAll K (hide S H) vs ds) : RelS K T H S [] (startE N.length ds) (L2.start N vs) H := by
  have hl := r.length
  refine ⟨.refl, lv, lv, ?_, fun i d e => ?_, fun i d e => ?_, fun p hp => (by cases hp), fun i d q q1 => ?_, fun i j d e p q1 => ?_⟩
  · unfold startE L2.start
    simp [hl]
  · have e' : ds[i]? = some d := by
      unfold startE at e
      by_cases hi : i < ds.length
      · rw [List.getElem?_append_left (by simpa using hi)] at e
        obtain ⟨x, h1, h2⟩ := get_map e
        cases h2
        exact h1
      · rw [List.getElem?_append_right (by simpa using hi)] at e
        obtain ⟨_, z⟩ := List.mem_replicate.mp (List.mem_of_getElem? e)
        cases z
    obtain ⟨v, h1, h2⟩ := r.get e'
    refine ⟨v, ?_, h2⟩
    unfold L2.start
    have hi := (List.getElem?_eq_some_iff.mp h1).1
    rw [List.getElem?_append_left (by simpa using hi), List.getElem?_map, h1]
    rfl
  · unfold startE at e
    by_cases hi : i < ds.length
    · rw [List.getElem?_append_left (by simpa using hi)] at e
      obtain ⟨x, h1, h2⟩ := get_map e
      cases h2
    · rw [List.getElem?_append_right (by simpa using hi)] at e
      obtain ⟨_, z⟩ := List.mem_replicate.mp (List.mem_of_getElem? e)
      cases z
  · unfold startE at q1
    by_cases hi : i < ds.length
    · rw [List.getElem?_append_left (by simpa using hi)] at q1
      obtain ⟨x, h1, h2⟩ := get_map q1
      cases h2
    · rw [List.getElem?_append_right (by simpa using hi)] at q1
      obtain ⟨_, z⟩ := List.mem_replicate.mp (List.mem_of_getElem? q1)
      cases z
  · unfold startE at q1
    by_cases hi : i < ds.length
    · rw [List.getElem?_append_left (by simpa using hi)] at q1
      obtain ⟨x, h1, h2⟩ := get_map q1
      cases h2
    · rw [List.getElem?_append_right (by simpa using hi)] at q1
      obtain ⟨_, z⟩ := List.mem_replicate.mp (List.mem_of_getElem? q1)
      cases z
/-- a def by its body's rule -/
theorem fn_ok {x : Str} {st : Stmt} {f : Addr} {fd : FuncData} {N ps : List Str} {k : Nat} {m : Sv} (F : L2.Fun K x x st f fd) (S : FnScope N ps (defScope st)) 
    (hbody : ∀ (cdv : Value) (A : Around) (outer : List PySem.Env) (s : Shared) (H : Hp) (E : XK), Room k (A.deeper (envOfC x (defScope st) s.heap.objs.size f cdv)) →
      ISs T ca (cxOf (L2N.CX P w) P w K mg base N x (defScope st) f cdv A outer s H E) (fun c d _ H => E c d H) (defBody st) m) : FnOk P w K mg base (L2N.CX P w) (k + 1) f fd ps (SpD T ca K ps.length fun ds => outR (m (startE N.length ds))) := by
  obtain ⟨oc, od, kV, doc, pm, an, cdv, ct, osl, rfl, lk, hcd⟩ := F.ex
  refine fn_of lk hcd S (fun vs H Q E h => h.1) fun A outer s H vs Q E hr ⟨hl, S0, ds, lv, rr, fin⟩ => ⟨_, (hbody cdv A outer s H E hr).ps, H, S0, [], startE N.length ds, start_rel lv rr, ?_⟩
  have fin : Fin T ca (Rv K S0) (fun c d _ H' => E c d H') [] H (outR (m (startE N.length ds))) Q := fin
  cases hm : m (startE N.length ds) with
  | nx e => rw [hm] at fin; exact fun os σ H' r => fin .non H' r.pe .non
  | ret d => rw [hm] at fin; exact fun v H' p r => fin v H' p r
  | exc c => rw [hm] at fin; exact fun σ H' p => fin H' p
  | brk e => rw [hm] at fin; exact fin.elim
  | ct e => rw [hm] at fin; exact fin.elim
  | stuck => rw [hm] at fin; exact fin.elim
theorem fnD_of {x : Str} {st : Stmt} {f : Addr} {fd : FuncData} {N ps : List Str} {k n : Nat} {m : Sv} (F : L2.Fun K x x st f fd) (hm : mg x = some (.ref f)) (hb : L2.Binds K fd ps []) (hn : ps.length = n) (S : FnScope N ps (defScope st)) 
    (hbody : ∀ (cdv : Value) (A : Around) (outer : List PySem.Env) (s : Shared) (H : Hp) (E : XK), Room k (A.deeper (envOfC x (defScope st) s.heap.objs.size f cdv)) →
      ISs T ca (cxOf (L2N.CX P w) P w K mg base N x (defScope st) f cdv A outer s H E) (fun c d _ H => E c d H) (defBody st) m) : FnD T ca P w K mg base (k + 1) x n fun ds => outR (m (startE N.length ds)) := by
  subst hn
  exact ⟨f, fd, ps, rfl, fn_ok F S hbody, hm, F.kp, hb⟩
end
end IL
namespace IL
open PySem PySem.Spec PyProof.Rows L2
/-! ### a lambda that is made: the heap goes on -/
section
variable {T : Gam} {X : Cx} {pins : List (Addr × Obj)} {σ : L2.St} {H : Hp} {s : Shared}
abbrev lq (X : Cx) : Str := X.env.qual ++ "<lambda>"
theorem no_tbl_of {o : HO} (h : isTbl o = false) : ∀ ps, o ≠ .tbl ps := fun ps z => by rw [z] at h; cases h
/-- the table at P grows by one row -/
theorem pe_grow {P c : Addr} {q : Str} {ps : Array Value} {pos : Pos} (hT : TabC T H) (hP : H P = some (.tbl ps)) (hc : H c = none) (hu : ∀ p ∈ T.tabs, p.1 = P → p.2 = q) (t3 : TriplesOk ps.toList)
    (old : ∀ (p : Pos) (v : Value), codeAmong p ps.toList = some v → ∃ b, v = .ref b ∧ H b = some (LamX.CodeO b q)) :
    Pe T H (upd (upd H P (.tbl (ps ++ #[rawInt pos.line, rawInt pos.col, .ref c]))) c (LamX.CodeO c q)) := by
  have Pc : P ≠ c := ne_of_none hP hc
  have keepN : ∀ b o, H b = some o → isTbl o = false → upd (upd H P (.tbl (ps ++ #[rawInt pos.line, rawInt pos.col, .ref c]))) c (LamX.CodeO c q) b = some o := fun b o e n => by
    have h1 : b ≠ c := ne_of_none e hc
    have h2 : b ≠ P := fun z => no_tbl_of n ps (Option.some.inj (e.symm.trans (by rw [z]; exact hP)))
    rw [upd_ne h1, upd_ne h2]
    exact e
  have snoc : (ps ++ #[rawInt pos.line, rawInt pos.col, Value.ref c]).toList = ps.toList ++ [rawInt pos.line, rawInt pos.col, .ref c] := by simp
  refine ⟨keepN, fun b e => ?_, fun _ => ⟨fun p hp => ?_, ?_⟩⟩
  · by_cases h1 : b = c
    · rw [h1]; exact hc
    · rw [upd_ne h1] at e
      by_cases h2 : b = P
      · rw [h2, upd_same] at e; cases e
      · rwa [upd_ne h2] at e
  · by_cases hb : p.1 = P
    · rw [hu p hp hb, hb]
      refine ⟨_, (upd_ne Pc).trans upd_same, by rw [snoc]; exact PySem.TriplesOk_snoc _ _ _ _ t3, fun p' v hv => ?_⟩
      rw [snoc] at hv
      rcases LamX.among_app _ t3 hv with z | z
      · obtain ⟨b, e1, e2⟩ := old p' v z
        exact ⟨b, e1, keepN _ _ e2 rfl⟩
      · exact ⟨c, z, upd_same⟩
    · obtain ⟨rs, a1, a2, a3⟩ := hT.at_ p hp
      have hne : p.1 ≠ c := ne_of_none a1 hc
      refine ⟨rs, ((upd_ne hne).trans (upd_ne hb)).trans a1, a2, fun p' v hv => ?_⟩
      obtain ⟨b, e1, e2⟩ := a3 p' v hv
      exact ⟨b, e1, keepN _ _ e2 rfl⟩
  · refine T.mono H _ (fun b o e f => keepN b o e ?_) hT.inv
    cases o <;> first | rfl | cases f
/-- .. as LamX.lam_make2, and the heap goes on -/
theorem lam_new {c P : Addr} {ar : Arguments} {b : Expr} {sc : Scope} {pos : Pos} {E : Value → Shared → Prop} {Q : Value → Shared → Prop} (J : Inv X pins σ H s) (B : LamX.TabB X.base X.mg c P) (hcd : X.env.code = .ref c)
    (hin : (P, lq X) ∈ T.tabs) (hone : ∀ p ∈ T.tabs, p.1 = P → p.2 = lq X) (hT : TabC T H) (hdef : defaultsOf ar X.env = ([], [])) (hfr : ∀ y ∈ sc.names, y.2 = .free → ∃ c, X.env.cells.lookup y.1 = some c)
    (k : ∀ (f c' : Addr) (pm ctv : Value) (H1 : Hp) (s' : Shared), Inv X pins σ H1 s' → Pe T H H1 →
      s'.heap.get? f = some (PySem.W.kla_obj "<lambda>" (lq X) ar b sc (cloFrom X.env.cells sc.names []) pm c' ctv) → H1 f = none → f ∉ frs X.stack → H1 c' = some (LamX.CodeO c' (lq X)) → Q (.ref f) s') :
    wpAny (model X.prog X.w) X.A (eval (.Lambda ar b sc pos) X.env) Q E s := by
  obtain ⟨ps, hP, t3, old⟩ := hT.at_ _ hin
  have out : ∀ g, s.heap.objs.size ≤ g → g ∉ frs X.stack := fun g hg z => by
    rcases List.mem_cons.mp (J.stkSub _ z) with e | e
    · have lt := J.lt
      rw [← e] at lt
      exact absurd (Nat.lt_of_lt_of_le lt hg) (Nat.lt_irrefl g)
    · exact J.nofs hg e
  have bk := J.bk
  have gP : s.heap.get? P = some { cls := .none, data := .fields ps } := J.hok P _ hP
  refine PySem.W.kla_eval hdef ?_
  cases hit : codeAmong pos ps.toList with
  | some v =>
    obtain ⟨c', rfl, hco⟩ := old pos v hit
    refine PySem.W.kla_makeFunctionHit (c := c) (P := P) (ps := ps) (mg := X.mg) (closure_ok hfr) J.ok.glob (J.mod.glob.keeps bk) hcd (B.code.keeps bk) gP t3 hit (B.bm.keeps bk) fun ctv h' tk kp hz => ?_
    exact k h'.objs.size c' ((X.mg "__name__").getD .none) ctv H _ (J.kept (t' := tk) fun b o e => Heap.get?_push_of_some _ (kp b o e)) .refl (Heap.get?_push_size _ rfl) (J.hok.fresh hz) (out _ hz) hco
  | none =>
    refine PySem.W.kla_makeFunction (ps := ps) (P := P) (c := c) (mg := X.mg) (closure_ok hfr) J.ok.glob (J.mod.glob.keeps bk) hcd (B.code.keeps bk) gP t3 hit B.gP (B.bm.keeps bk) fun c' ctv h' tk eb hge hlt rec' tb => ?_
    obtain ⟨c2, oc, vs, t, e2, hoc, hd, hv⟩ := rec'
    cases e2
    have sz : s.heap.objs.size ≤ h'.objs.size := Nat.le_trans hge (Nat.le_of_lt hlt)
    have nC : H c' = none := J.hok.fresh hge
    have J1 := LamX.inv_table (t' := tk) (more := #[rawInt pos.line, rawInt pos.col, .ref c']) (q := lq X) (c := c') J hP
      (h' := h'.push (PySem.W.kla_obj "<lambda>" (lq X) ar b sc (cloFrom X.env.cells sc.names []) ((X.mg "__name__").getD .none) c' ctv)) (fun b o hb e => Heap.get?_push_of_some _ (eb b o hb e)) (Heap.get?_push_of_some _ tb) hge ⟨oc, vs, t, Heap.get?_push_of_some _ hoc, hd, hv⟩
    refine k h'.objs.size c' ((X.mg "__name__").getD .none) ctv _ _ J1 (pe_grow hT hP nC hone t3 old) (Heap.get?_push_size _ rfl) ?_ (out _ sz) upd_same
    have n1 : h'.objs.size ≠ c' := Nat.ne_of_gt hlt
    have n2 : h'.objs.size ≠ P := Nat.ne_of_gt (Nat.lt_of_lt_of_le (Heap.lt_size gP) sz)
    exact ((upd_ne n1).trans (upd_ne n2)).trans (J.hok.fresh sz)
end
/-! ### its body's context, for exceptions whose context is None -/
def lamN (X : Cx) (A : Around) (outer : List PySem.Env) (s : Shared) (H : Hp) (E : XK) (sc : Scope) (f c' : Addr) : Cx :=
  (LamX.lamCx X A outer s H E sc f c').wish fun e s' => wpAny (model X.prog X.w) (A.deeper (LamX.lamEnv X sc s.heap.objs.size f c')) (leaving (LamX.lamEnv X sc s.heap.objs.size f c') e) (fun _ s2 => L2N.CX X.prog X.w outer H s E e s2) (fun e' s2 => L2N.CX X.prog X.w outer H s E e' s2) s'
section
variable {T : Gam} {ca : XC → Addr} {X : Cx} {pins : List (Addr × Obj)} {σ : L2.St} {H : Hp} {s : Shared}
theorem lamN_takes {A : Around} {outer : List PySem.Env} {E : XK} {sc : Scope} {f c' : Addr} : L2N.Takes (lamN X A outer s H E sc f c') (fun c d _ H => E c d H) :=
  L2N.takes_of rfl rfl rfl rfl
/-- a(), in the def that got the lambda -/
theorem pe_actN {CXg : CXT} {Eg : XK} {Ng : List Str} {qg : Str} {sg : Scope} {g f c' : Addr} {cdg pm ctv : Value} {ar : Arguments} {b : Expr} {sc : Scope} {k i : Nat} {a : Str} {pn : List (Addr × Obj)} {xe : Value → Shared → Prop} {W : WX} {tb : XK → TE} {p1 p2 : Pos}
    (J : Inv X pins σ H s) (L : LamX.LamS X.env.scope sc) (hf : s.heap.get? f = some (PySem.W.kla_obj "<lambda>" (lq X) ar b sc (cloFrom X.env.cells sc.names []) pm c' ctv)) (hfn : H f = none) (hfr : f ∉ frs X.stack)
    (hbind : bindArgs (PySem.W.kla_fn "<lambda>" (lq X) ar b sc (cloFrom X.env.cells sc.names []) pm (.ref c') ctv) ⟨[], []⟩ = pure [])
    (tk : L2N.Takes ((cxOf CXg X.prog X.w X.K X.mg X.base Ng qg sg g cdg X.A X.stack s H Eg).tr pn xe) W) (hr : Room (k + 1) (X.A.deeper (envOfC qg sg s.heap.objs.size g cdg)))
    (hbody : ∀ (A : Around) (outer : List PySem.Env) (s : Shared) (H : Hp) (E : XK), Room k (A.deeper (LamX.lamEnv X sc s.heap.objs.size f c')) → PE (lamN X A outer s H E sc f c') b (tb E))
    (hN : Ng[i]? = some a) (hv : Vis sg a) (hd : (a == ("__debug__" : Str)) = false := by decide) (hcd : (a == ("__classdict__" : Str)) = false := by decide) :
    PE ((cxOf CXg X.prog X.w X.K X.mg X.base Ng qg sg g cdg X.A X.stack s H Eg).tr pn xe) (.Call (.Name a p1) [] [] p2)
      (fun σZ HZ Q => ∃ E : XK, (∀ cls d H', E cls d H' → W cls d σZ H') ∧ σZ[i]? = some (some (.ref f)) ∧ HZ c' = some (LamX.CodeO c' (lq X)) ∧ tb E σ HZ Q) := by
  refine ⟨fun pinsZ sZ σZ HZ Q IZ ⟨E, hW, hs, hc, ht⟩ => ?_⟩
  refine wpAny_Call_Name_kw (thn ((pe_var (pos := p1) (i := i) hN hv hd hcd).run pinsZ sZ σZ HZ (fun v H1 => v = .ref f ∧ H1 = HZ) IZ ⟨.ref f, hs, rfl, rfl⟩) fun u s1 ⟨v, H1, J1, r1, ev, eH⟩ => ?_)
  subst ev eH
  obtain rfl : u = Value.ref f := r1
  have getf := J1.base.keep f _ hf hfn hfr (fun z => nomatch (show f ∈ ([] : List Addr) from z))
  obtain ⟨⟨oc, vs, t, hoc, hdc, hvc⟩, _, _⟩ := J1.hok c' _ hc
  refine PySem.W.callWith_F0 ⟨_, _, _, _, getf⟩ ?_
  have un : Un (frs X.stack) [] H H1 s.heap s1.heap := J1.base
  have rc : codeAny (model X.prog X.w) (X.A.deeper (envOfC qg sg s.heap.objs.size g cdg)) (.call (.ref f) ⟨[], []⟩) (CR (L2N.CX X.prog X.w) (envOfC qg sg s.heap.objs.size g cdg :: X.stack) X.prog X.w H1 s1 Q E) s1 := by
    refine PySem.W.kla_callFunE hr.depth getf rfl L.co L.gen rfl ⟨c', oc, vs, t, rfl, hoc, hdc, hvc⟩ ?_
    rw [hbind]
    refine wpAny_pure (wpAny_newFunctionEnv (fun y hy => (L.own y hy).2) (fun y hy => absurd hy (by simp)) (fun h₁ hns sb => ⟨J1.nolimit.fresh _ sb, ?_⟩) L.kind)
    have kp : ∀ b o, s1.heap.get? b = some o → h₁.get? b = some o := fun b o e => sb.extBut b o (Nat.ne_of_lt (Heap.lt_size e)) (Heap.get?_push_of_some _ e)
    have J2 := LamX.lam_start2 (E := E) (f := f) (c' := c') (tk := s1.toks + ([] : List (Str × Value)).length) J L J1.env0 hr.hd un hns kp
    have J3 := J2.wish fun e s' => wpAny (model X.prog X.w) ((X.A.deeper (envOfC qg sg s.heap.objs.size g cdg)).deeper (LamX.lamEnv X sc s1.heap.objs.size f c')) (leaving (LamX.lamEnv X sc s1.heap.objs.size f c') e) (fun _ s2 => L2N.CX X.prog X.w (envOfC qg sg s.heap.objs.size g cdg :: X.stack) H1 s1 E e s2) (fun e' s2 => L2N.CX X.prog X.w (envOfC qg sg s.heap.objs.size g cdg :: X.stack) H1 s1 E e' s2) s'
    refine PySem.W.kla_codeExpr (wpAny_mono ((hbody _ _ s1 H1 E (hr.deeper _)).run [] _ _ H1 Q J3 ht) (fun v s' ⟨w', H', J', rv, q⟩ => ?_) fun e s' hq => hq)
    exact ⟨w', H', J'.os, J'.bare, J'.base, J'.hok, rv, q⟩
  refine wpAny_call (codeAny_mono rc fun r s' hq => ?_)
  match r, hq with
  | .error e, hq => exact tk e s' (L2N.XE.of_call J1 (fun cls d H' h => hW cls d H' h) hq)
  | .ok (.ret u), hq => exact J1.after hq
end
end IL
namespace IL
open PySem PySem.Spec PyProof.Rows L2
/-! ### the refusals' names, told of the exception that is handled -/
def refused (nm : XC → Str) (c : XC) : D := .tuple [.str "refused", .str (nm c)]
/-- the word of an exception: a def called within the suite, with the exception that is handled -/
structure FnW (cs : List XC) (T : Gam) (ca : XC → Addr) (nm : XC → Str) (P : Program) (w : World) (K : PySem.W.Frag) (mg : Str → Option Value) (base : Heap) (k : Nat) (f : Addr) (fd : FuncData) (ps : List Str) : Prop where
  run : ∀ (CX : CXT) (A : Around) (outer : List PySem.Env) (s : Shared) (H : Hp) (args : Args) (Q : VK) (E : XK) (p : Addr × Obj) (c : XC) (S : List Addr), L2H.RoomH k A → L2H.Hot1 A p → L2H.PinOk outer H s p → Env0 P w K mg base A outer s H → BindsTo s fd args (ps.zip [.ref p.1]) →
    p.2.cls = .ref (ca c) → p.2.dict = none → c ∈ cs → Live T S H → (∀ v H', Pe T H H' → Rp K (hide S H') v (refused nm c) → Q v H') → codeAny (model P w) A (.call (.ref f) args) (CR CX outer P w H s Q E) s
section
variable {cs : List XC} {T : Gam} {ca : XC → Addr} {nm : XC → Str} {X : Cx} {k : Nat} {f : Addr} {fd : FuncData} {ps : List Str}
/-- x(e) in the suite, e the name of what is handled -/
theorem pe_word {i : Nat} {x y : Str} {q q2 pos : Pos} {a : Addr} {oe : Obj} {pn : List (Addr × Obj)} {cls : Value} {d : Option Addr} (F : FnW cs T ca nm X.prog X.w X.K X.mg X.base k f fd ps) (hps : ps.length = 1) (hr : L2H.RoomH k X.A) (hz : L2N.Zn cls d oe) (hvs : ∃ vs, oe.data = .fields vs)
    (hg : Gl X x) (hm : X.mg x = some (.ref f)) (hk : PySem.W.keepIn X.K (.ref f) = true) (hb : Binds X.K fd ps []) (hN : X.N[i]? = some y) (hv : Vis X.env.scope y) (hdb : (x == ("__debug__" : Str)) = false) (hd : (y == ("__debug__" : Str)) = false) (hcd : (y == ("__classdict__" : Str)) = false)
    (he : starEach [.Name y q2] X.env = (false, eval (.Name y q2) X.env) :: starEach [] X.env) (hpl : (backTo pos (starEach [] X.env)).any (·.1) = false) :
    PE (X.suite a ((a, oe) :: pn)) (.Call (.Name x q) [.Name y q2] [] pos) fun σ H Q => σ[i]? = some (some (.ref a)) ∧ ∃ c S, cls = .ref (ca c) ∧ d = none ∧ c ∈ cs ∧ Live T S H ∧ ∀ v H', Pe T H H' → Rp X.K (hide S H') v (refused nm c) → Q v H' := by
  refine ⟨fun pins s σ H Q I ⟨hi, c, S, e1, e2, hcs, lv, hQ⟩ => ?_⟩
  subst e1 e2
  refine wpAny_Call_Name_kw (ld_glob I hg hm ?_ hdb)
  have va : PA (X.suite a ((a, oe) :: pn)) [.Name y q2] (tCons (tVar i) tNil) := pa_cons (pe_var hN hv hd hcd) pa_nil he
  refine PySem.W.callWith_K (h₀ := X.base) I.ok.mod.kin hk (thn (va.run pos pins s σ H (fun vs H1 => vs = [.ref a] ∧ H1 = H) I ⟨_, hi, rfl, rfl⟩) fun us s1 ⟨vs, H1, I1, r1, ev, eH⟩ => ⟨I1.kIn, ?_⟩) he hpl
  subst ev eH
  have eu : us = [.ref a] := by
    cases r1 with
    | cons ru rn =>
      cases rn
      cases ru
      rfl
  subst eu
  obtain ⟨z1, z2, z3⟩ := hz
  obtain ⟨vs, hvs⟩ := hvs
  have hot : L2H.Hot1 (X.suite a ((a, oe) :: pn)).A (a, oe) := ⟨rfl, vs, hvs, z3 vs hvs⟩
  have P1 := I1.pin (a, oe) (List.mem_append_left _ List.mem_cons_self)
  have pk : L2H.PinOk X.stack H1 s1 (a, oe) := ⟨P1.1, P1.2.1, fun hm => (List.mem_cons.mp (I1.stkSub a hm)).elim P1.2.2.1 P1.2.2.2.1, P1.2.2.2.2⟩
  have b := hb s1 [.ref a] I1.kIn (by rw [List.append_nil, hps]; rfl)
  rw [List.append_nil] at b
  refine wpAny_call (codeAny_mono (F.run C8.CX0 (X.suite a ((a, oe) :: pn)).A X.stack s1 H1 ⟨[.ref a], []⟩ Q C8.E0 (a, oe) c S ⟨hr.dp, hr.un⟩ hot pk I1.env0 b z1 z2 hcs lv hQ) fun r s' hq => ?_)
  match r, hq with
  | .error e, hq => exact (show False from hq).elim
  | .ok (.ret u), hq => exact I1.after hq
def mTold (cs : List XC) (nm : XC → Str) (m : Ev) : Ev := fun env => match m env with
  | .ok d => .ok d
  | .exc c => if c ∈ cs then .ok (refused nm c) else .stuck
  | .stuck => .stuck
/-- the def that calls a lambda and tells the refusal's word -/
structure Told (cs : List XC) (T : Gam) (ca : XC → Addr) (nm : XC → Str) (P : Program) (w : World) (K : PySem.W.Frag) (mg : Str → Option Value) (base : Heap) (k : Nat) (x le wd : Str) (st : Stmt) (Ng : List Str) (a y : Str) : Prop where
  F : ∃ g fd, L2.Fun K x x st g fd ∧ mg x = some (.ref g) ∧ Binds K fd [a] []
  S : FnScope Ng [a] (defScope st)
  N : Ng = [a, y]
  va : Vis (defScope st) a
  ky : (defScope st).names.lookup y = some .local
  kle : (defScope st).names.lookup le = some .globalImplicit
  kwd : (defScope st).names.lookup wd = some .globalImplicit
  body : ∃ p1 p2 p3 p4 p5 p6 p7 p8 p9 p10, defBody st = [.Try [.Return (some (.Call (.Name a p1) [] [] p2)) p3] [.ExceptHandler (some (.Name le p4)) (some y) [.Return (some (.Call (.Name wd p5) [.Name y p6] [] p7)) p8] p9] [] [] p10]
  dbg : (x == ("__debug__" : Str)) = false ∧ (le == ("__debug__" : Str)) = false ∧ (wd == ("__debug__" : Str)) = false ∧ (a == ("__debug__" : Str)) = false ∧ (y == ("__debug__" : Str)) = false
  cld : (a == ("__classdict__" : Str)) = false ∧ (y == ("__classdict__" : Str)) = false
  gle : ∃ CS, mg le = some (.ref CS) ∧ ∀ c ∈ cs, PySem.W.exmOne K (.ref (ca c)) (.ref CS) = some true
  W : ∃ g fd ps, FnW cs T ca nm P w K mg base k g fd ps ∧ ps.length = 1 ∧ mg wd = some (.ref g) ∧ PySem.W.keepIn K (.ref g) = true ∧ Binds K fd ps []
/-- x(lambda: b) -/
theorem ie_told {W : WX} {c P : Addr} {j : Nat} {x le wd a y : Str} {st : Stmt} {Ng : List Str} {ar : Arguments} {b : Expr} {sc : Scope} {m : Ev} {p lp pos : Pos} (D : Told cs T ca nm X.prog X.w X.K X.mg X.base k x le wd st Ng a y) (B : LamX.TabB X.base X.mg c P) (hcode : X.env.code = .ref c)
    (hin : (P, lq X) ∈ T.tabs) (hone : ∀ p ∈ T.tabs, p.1 = P → p.2 = lq X) (hr : Room (j + 2) X.A) (hkj : k ≤ j + 1) (hcl : LamX.lamSB X.env.scope sc = true) (hdef : defaultsOf ar X.env = ([], []))
    (hbind : ∀ (q : Str) (cl : List (Str × Addr)) (pm cv ctv : Value), bindArgs (PySem.W.kla_fn "<lambda>" q ar b sc cl pm cv ctv) ⟨[], []⟩ = pure [])
    (hbody : ∀ (A : Around) (outer : List PySem.Env) (s : Shared) (H : Hp) (E : XK) (f c' : Addr), Room j (A.deeper (LamX.lamEnv X sc s.heap.objs.size f c')) → IE T ca (lamN X A outer s H E sc f c') (fun c d _ H => E c d H) b m) (hg : Gl X x) :
    IE T ca X W (.Call (.Name x p) [.Lambda ar b sc lp] [] pos) (mTold cs nm m) := by
  have L := LamX.lamS_by hcl
  obtain ⟨g, fd, F, hm, hb⟩ := D.F
  obtain ⟨oc, od, kV, doc, pm0, an, cdv, ct, osl, rfl, lk, hcg⟩ := F.ex
  obtain ⟨p1, p2, p3, p4, p5, p6, p7, p8, p9, p10, eb⟩ := D.body
  obtain ⟨CS, hle, hex⟩ := D.gle
  obtain ⟨gw, fw, psw, FW, hps, hmw, hkw, hbw⟩ := D.W
  obtain ⟨db1, db2, db3, db4, db5⟩ := D.dbg
  have hNg := D.N
  refine ⟨⟨fun pins s σ H Q I ⟨S, env, lv, rel, fin⟩ => ?_⟩⟩
  refine wpAny_Call_Name_kw (ld_glob I hg hm ?_ db1)
  refine PySem.W.callWith_K (h₀ := X.base) I.ok.mod.kin F.kp ?_ (by rfl) (by rfl)
  refine Calls.spliced_cons (lam_new I B hcode hin hone lv.tb hdef (L.has I.ok) fun f c' pm ctv H1 s' I1 pe hf hfn hfr hco => ?_)
  refine Calls.spliced_nil ⟨I1.kIn, ?_⟩
  have lv1 := lv.le pe
  have rel1 := rel.le pe
  have fin1 : Fin T ca (Rv X.K S) W σ H1 (mTold cs nm m env) Q := fin.le pe
  have rc : codeAny (model X.prog X.w) X.A (.call (.ref g) ⟨[.ref f], []⟩) (CR C8.CX0 X.stack X.prog X.w H1 s' Q C8.E0) s' := by
    refine LamX.run_ofS (N := Ng) (ps := [a]) (us := [.ref f]) (vs := [.ref f]) lk hcg D.S hr I1.env0 (hb s' [.ref f] I1.kIn rfl) (.cons rfl .nil) rfl fun hr' => ?_
    subst hNg
    have tk0 : L2N.Takes (cxOf C8.CX0 X.prog X.w X.K X.mg X.base [a, y] x (defScope st) g cdv X.A X.stack s' H1 C8.E0) (fun _ _ _ _ => False) := fun u s2 ⟨_, _, _, _, _, _, _, _, _, _, _, _, _, _, _, _, z⟩ => z.elim
    rw [eb]
    refine ⟨_, pss_one (L2N.ps_try_as (i := 1) (n := y) (c := .ref CS) rfl rfl D.S.nd rfl D.ky ⟨D.kle, db2, .inl hle⟩ tk0
      (fun W pn xe tk _ => pss_one (ps_ret (pe_actN (i := 0) (tb := fun E => tI T ca X.K (fun c d _ H => E c d H) m) I1 L hf hfn hfr (hbind _ _ _ _ _) tk hr' (fun A outer s H E hr2 => (hbody A outer s H E f c' hr2).pe) rfl D.va db4 D.cld.1)))
      (fun a' oe cls d pn hz hv => pss_one (ps_ret (pe_word (X := cxOf C8.CX0 X.prog X.w X.K X.mg X.base [a, y] x (defScope st) g cdv X.A X.stack s' H1 C8.E0) (i := 1) FW hps (L2H.RoomH.mono (L2H.roomH_of hr') hkj) hz hv D.kwd hmw hkw hbw rfl (.inl D.ky) db3 db5 D.cld.2 (by rfl) (by rfl))))), ?_⟩
    refine ⟨fun cls d H' => ∃ c S, cls = .ref (ca c) ∧ d = none ∧ c ∈ cs ∧ Live T S H' ∧ ∀ v H2, Pe T H' H2 → Rp X.K (hide S H2) v (refused nm c) → Q v H2, fun cls d H' ⟨c, S, e1, e2, hcs, lv', hq⟩ => ⟨true, by rw [e1]; exact hex c hcs, fun _ a' _ => ⟨rfl, c, S, e1, e2, hcs, lv', hq⟩, fun z => by cases z⟩, rfl, hco, S, env, lv1, rel1, ?_⟩
    unfold mTold at fin1
    cases hm : m env with
    | ok d => rw [hm] at fin1; exact fin1
    | exc c =>
      rw [hm] at fin1
      dsimp only at fin1
      split at fin1
      · rename_i hcs
        exact fun H' p' => ⟨c, S, rfl, rfl, hcs, lv1.le p', fun v H2 p2 r => fin1 v H2 (p'.trans p2) r⟩
      · exact fin1.elim
    | stuck => rw [hm] at fin1; exact fin1
  refine wpAny_call (codeAny_mono rc fun r s2 hq => ?_)
  match r, hq with
  | .error e, hq => exact (show False from hq).elim
  | .ok (.ret u), hq => exact I1.after hq
end
end IL
namespace IL
open PySem PySem.Spec PyProof.Rows L2
abbrev St := L2.St
/-! ### while an exception is handled: a list is walked to its end, summed -/
section
variable {prog : Program} {w : World} {A : Around} {E : Value → Shared → Prop} {s : Shared}
theorem list_end_hot {it l x1 : Addr} {i : Nat} {items : Array Value} {Q : Option Value → Shared → Prop} (hot : HotX.HotAt A x1 s.heap) (hit : s.heap.IsListIter it l i) (hl : s.heap.IsList l items) (hx : items[i]? = none) (ne : x1 ≠ it)
    (hQ : ∀ h', Heap.ExtBut it s.heap h' → Q none { s with heap := h' }) : wpAny (model prog w) A (pyNext (.ref it)) Q E s := by
  obtain ⟨hh, o1, vs1, g1, d1, c1⟩ := hot
  obtain ⟨ob, hob, hcl, hdt⟩ := id hit
  obtain ⟨ol, hol, _, nl, hdl⟩ := hl
  unfold pyNext
  refine wpAny_bind (wpAny_attempt (wpAny_callSpecial?_slot (name := Str.ofString "__next__") hit.typeIs slot_listiter_next (wpAny_call_entry slot_listiter_next hit.typeIs entry_listiter_next ?_ (args_listiter_next _))))
  show wpAny _ _ (field (.ref it) 0 >>= _) _ _ s
  refine wpAny_bind (wpAny_field hob hdt (x := .ref l) rfl ?_)
  show wpAny _ _ (if (Value.ref l == Value.none) = true then _ else _) _ _ s
  rw [if_neg (by exact Bool.false_ne_true : ¬ ((Value.ref l == Value.none) = true))]
  show wpAny _ _ (field (.ref it) 1 >>= _) _ _ s
  refine wpAny_bind (wpAny_field hob hdt (x := .int i 0) rfl ?_)
  show wpAny _ _ (seqItems? (.ref l) >>= _) _ _ s
  refine wpAny_bind (wpAny_seqItems hol hdl ?_)
  simp only [Int.toNat_natCast, hx]
  have g2 : ∀ f, (s.heap.update it f).get? x1 = some o1 := fun f => (Heap.get?_update_other _ _ (fun z => ne z.symm)).trans g1
  refine wpAny_bind (wpAny_rule (wpAny_bind (wpAny_setField hob hdt (by simp) ?_)))
  show wpAny _ _ (newExc (.type "StopIteration") [] >>= _) _ _ _
  refine wpAny_bind ?_
  simp only [newExc, newTuple]
  refine wpAny_bind (wpAny_newObj_type ?_ (by size_fits))
  refine wpAny_bind (m := firstArgMember _ _) (wpAny_of_eq (a := Value.none) (by first | rfl | (simp only [firstArgMember]; rfl)) ?_)
  refine wpAny_newObj_type ?_ (by size_fits)
  refine HotX.raiseNew_hot ⟨hh, o1, vs1, Heap.get?_push_of_some _ (Heap.get?_push_of_some _ (g2 _)), d1, c1⟩ (Nat.ne_of_lt (Heap.lt_size (Heap.get?_push_of_some _ (g2 _)))) (Heap.get?_push_size _ rfl) rfl (by first | (simp; done) | (simp; omega) | (simp only [Array.size_append]; simp; omega)) ?_
  refine wpAny_bind (wpAny_isInstance (T := "StopIteration") (b := true) ⟨_, Heap.get?_update_self _ (Heap.get?_push_size _ rfl) rfl, rfl⟩ isSubtype_stop ?_)
  refine wpAny_pure (hQ _ fun b o hb e => ?_)
  rw [Heap.get?_update_other _ _ (Nat.ne_of_gt (Heap.lt_size (Heap.get?_push_of_some _ ((Heap.SameBut.update ..).extBut b o hb e))))]
  exact Heap.get?_push_of_some _ (Heap.get?_push_of_some _ ((Heap.SameBut.update ..).extBut b o hb e))
end
section
variable {X : Cx}
theorem turn_listH {P : Program} {w : World} {K : PySem.W.Frag} {tg : Expr} (a it : Addr) : L2H.TurnH P w K tg (Itl K a) [it] it (fun i h => h.IsListIter it a i) where
  mem := by simp
  obj := fun i h st b hb => by
    obtain rfl : b = it := by simpa using hb
    obtain ⟨o, e, c, d⟩ := st
    exact ⟨o, e, fun v z => by rw [d] at z; cases z⟩
  keep := fun i h h' st k => st.at fun o e => k it (by simp) o e
  item := by
    rintro X rfl rfl rfl hc i pins s σ H E J hf st ⟨xs, x, hq, hx⟩
    obtain ⟨its, rv, p, hz⟩ := J.list hq
    obtain ⟨u, hu, ru⟩ := rv.get hx
    obtain ⟨f0, f1, f2, f3, f4, f5⟩ := hf it (by simp)
    refine wpAny_pyNext_list_item st p.isList (x := u) (by simpa using hu) fun h' st' sb => ?_
    have J1 : Inv X pins σ H { s with heap := h' } := J.turned (t' := s.toks) (fun b o hb e => (sb.2 b hb).trans e) f0 f1 f3 f4 f5
    obtain ⟨o, e, c, d⟩ := id st'
    exact ⟨u, rfl, go_of (s := { s with heap := h' }) e c d (by decide) ⟨x, H, J1, ru, ⟨rfl, fun ys hy => by rw [J.list_inj hy hq]; exact hx⟩, st', fun b hb => (hf b hb).1⟩⟩
  done := by
    rintro X rfl rfl rfl hc i pins s σ H E J hf st ⟨xs, hq, hx⟩
    obtain ⟨its, rv, p, hz⟩ := J.list hq
    obtain ⟨f0, f1, f2, f3, f4, f5⟩ := hf it (by simp)
    have hl := rv.length
    obtain ⟨y, ⟨hh, v1, e1, c1⟩, hy⟩ := hc
    have P1 := J.pin y (List.mem_append_left _ hy)
    exact list_end_hot ⟨hh, y.2, v1, P1.1, e1, c1⟩ st p.isList (by simp; omega) (f5 y (List.mem_append_left _ hy)) fun h' eb => ⟨rfl, J.turned (t' := s.toks) (fun b o hb e => eb b o hb e) f0 f1 f3 f4 f5⟩
  self := fun _ _ _ _ _ st h => wpAny_pyIter_listiter st h
theorem pi_listH {tg l : Expr} {tl : TE} (hl : PE X l tl) : L2H.PIH X tg l (iList X.K tl) := by
  refine ⟨fun pins s σ H R J h => ?_⟩
  refine thn (hl.run pins s σ H _ J h) fun v s1 ⟨x, H1, J1, r1, a, e, ⟨xs, hq⟩, q⟩ => ?_
  subst e
  cases r1
  obtain ⟨its, rv, p, hz⟩ := J1.list hq
  refine wpAny_pyIter_list p.isList ⟨s1.heap.objs.size, [s1.heap.objs.size], _, _, H1, rfl, J1.kept (t' := s1.toks) fun b o e => Heap.get?_push_of_some _ e, turn_listH a _, ⟨_, Heap.get?_push_size _ rfl, rfl, rfl⟩, fun b hb => ?_, q⟩
  obtain rfl : b = s1.heap.objs.size := by simpa using hb
  exact J1.fpOk (Nat.le_refl _) (J1.hok.fresh (Nat.le_refl _))
theorem lc_hot {pins : List (Addr × Obj)} {s : Shared} {σ : St} {H : Hp} {Q : VK} {elt tg iter : Expr} {ifs : List Expr} {scope : Scope} {own : List (Str × Nat)} {pos pos' : Pos} {wi : TI} {g : TG} {tt : TT} {te : TE} {use : Option (Value → Sem Unit)} {Qf : Value → Shared → Prop}
    {p : Addr × Obj} (hp : p ∈ X.pn) (hot : L2H.Hot1 X.A p) (hN : X.N.Nodup) (Y : Inv X pins σ H s) (hi : L2H.PIH X tg iter wi) (ok : BlkOk X.N X.env.scope scope own)
    (hg : ∀ (s : Shared) (H : Hp) (C : Addr) (cl : List (Str × Addr)) (fp : List Addr), PG (X.blk s H scope (compEnvC scope cl C X.env) fp) tg g) (ht : ∀ (s : Shared) (H : Hp) (C : Addr) (cl : List (Str × Addr)) (fp : List Addr), PTs (X.blk s H scope (compEnvC scope cl C X.env) fp) ifs tt)
    (he : ∀ (s : Shared) (H : Hp) (C : Addr) (cl : List (Str × Addr)) (fp : List Addr), PE (X.blk s H scope (compEnvC scope cl C X.env) fp) elt te) (hs : ∀ x, foldedSetIterable iter X.env x = pure x)
    (h : tLc wi g tt te (own.map (·.2)) σ H Q)
    (fin_ : ∀ D C s' m H', Inv X pins σ H' s' → Q (.ref D) H' → s'.heap.Ns C m → FpOk X pins H' C → compPost (model X.prog X.w) X.A X.xe use Qf (.ref D) C (.ok .next) s') :
    wpAny (model X.prog X.w) X.A (comprehension (.ListComp elt [⟨tg, iter, ifs, 0⟩] scope pos) scope X.env pos' (newList []) false (eval iter X.env) use) Qf X.xe s := by
  have frs_ : ∀ y ∈ scope.names, y.2 = .free → ∃ c, X.env.cells.lookup y.1 = some c := fun y hy e => by
    rcases ok.free y hy e with k | k
    · exact Y.ok.has _ (.inl k)
    · exact Y.ok.has _ (.inr k)
  refine wpAny_comprehension_free (use := use) rfl hs (closure_ok frs_) ok.kind (fun y hy e => by rw [ok.uniq y hy, e])
    (thn (hi.run pins s σ H _ Y h) fun xv u1 hx => thn hx fun itv u2 h2 => ?_)
  obtain ⟨it, fp, tn, J, G2, e, Y2, T, tn2, o2, q⟩ := h2
  subst e
  refine wpAny_newObj_type (newEnv_comp ?_) (by show 0 ≤ sizeLine; decide)
  generalize eD : u2.heap.objs.size = D
  have nD : G2 D = none := Y2.hok.fresh (Nat.le_of_eq eD)
  obtain ⟨W, ⟨k0, v0⟩, trn⟩ := q D nD
  -- the new list
  generalize eS3 : ({ u2 with heap := u2.heap.push { cls := .type "list", data := .seq ([] : List Value).toArray } } : Shared) = u3
  have Y3 : Inv X pins σ (upd G2 D (.lst [])) u3 := by
    rw [← eS3]
    refine Y2.laid (t' := u2.toks) (fun b o e => Heap.get?_push_of_some _ e) (Nat.le_of_eq eD) ⟨Nat.zero_le _, [], 0, .nil, ?_⟩
    rw [← eD]
    exact Heap.get?_push_size _ rfl
  have h3 : u3.heap = u2.heap.push { cls := .type "list", data := .seq ([] : List Value).toArray } := by rw [← eS3]
  have sz : ∀ b ∈ fp, b < u2.heap.objs.size := fun b hb => by
    obtain ⟨o, e, _⟩ := T.obj _ _ tn2 b hb
    exact Heap.lt_size e
  have o3 : ∀ b ∈ fp, FpOk X pins (upd G2 D (.lst [])) b ∧ b < u3.heap.objs.size := fun b hb => by
    have hlt := sz b hb
    refine ⟨⟨?_, (o2 b hb).2⟩, by rw [h3, Heap.size_push]; exact Nat.lt_succ_of_lt hlt⟩
    rw [upd_ne (by rw [← eD]; exact Nat.ne_of_lt hlt)]
    exact (o2 b hb).1
  have tn3 : tn 0 u3.heap := T.keep _ _ _ tn2 fun b _ o e => by rw [h3]; exact Heap.get?_push_of_some _ e
  have Y4 := (block_start Y3 ok hN o3).pins_of (pins' := [p]) fun z hz => by
    have ez : z = p := by simpa using hz
    subst ez
    obtain ⟨b1, b2, b3, b4, b5⟩ := Y3.pin z (List.mem_append_left _ hp)
    have lt3 := Heap.lt_size b1
    refine ⟨pushCells_keeps _ _ _ _ (Heap.get?_push_of_some _ b1), b2, Nat.ne_of_lt lt3, fun hm => ?_, b5⟩
    rcases List.mem_cons.mp (Y3.stkSub _ hm) with e | e
    · exact b3 e
    · exact b4 e
  have pg := hg u3 (upd G2 D (.lst [])) u3.heap.objs.size (cellsFrom (u3.heap.objs.size + 1) scope.names (cloFrom X.env.cells scope.names [])) fp
  have pt := ht u3 (upd G2 D (.lst [])) u3.heap.objs.size (cellsFrom (u3.heap.objs.size + 1) scope.names (cloFrom X.env.cells scope.names [])) fp
  have pe := he u3 (upd G2 D (.lst [])) u3.heap.objs.size (cellsFrom (u3.heap.objs.size + 1) scope.names (cloFrom X.env.cells scope.names [])) fp
  show codeAny _ _ (.compStart (.ListComp elt [⟨tg, iter, ifs, 0⟩] scope pos) 0 (.ref it) (.ref D) (compEnvC scope (cellsFrom (u3.heap.objs.size + 1) scope.names (cloFrom X.env.cells scope.names [])) u3.heap.objs.size X.env)) (compPost (model X.prog X.w) X.A X.xe use Qf (.ref D) u3.heap.objs.size) { u3 with heap := pushCells (u3.heap.push { cls := .type "dict", data := .dict #[] }) scope.names }
  have fpn : ∀ b ∈ fp, (upd G2 D (.lst [])) b = none := fun b hb => (o3 b hb).1.1
  generalize eCe : compEnvC scope (cellsFrom (u3.heap.objs.size + 1) scope.names (cloFrom X.env.cells scope.names [])) u3.heap.objs.size X.env = ce at Y4 pg pt pe ⊢
  have cL : ce.locals = u3.heap.objs.size := by subst eCe; rfl
  generalize eH3 : upd G2 D (.lst []) = G3 at Y3 Y4 pg pt pe v0 fpn o3
  generalize eS4 : ({ u3 with heap := pushCells (u3.heap.push { cls := .type "dict", data := .dict #[] }) scope.names } : Shared) = u4 at Y4 ⊢
  have tn4 : tn 0 u4.heap := T.keep _ _ _ tn3 fun b _ o e => by rw [← eS4]; exact pushCells_keeps _ _ _ _ (Heap.get?_push_of_some _ e)
  have sta : ∀ {σ' : St} {H' : Hp} {s' : Shared}, Inv (X.blk u3 G3 scope ce fp) [p] σ' H' s' → (∀ b ∈ fp, H' b = none) → ∀ b ∈ fp, FpOk (X.blk u3 G3 scope ce fp) [p] H' b := fun {σ' H' s'} Y' hn b hb =>
    ⟨hn b hb, (Y'.ok.exf b hb).1, Y'.ok.exfs b hb, .inl hb, fun x c e => (Y'.ok.exf b hb).2 x c e, fun z hz => by
      have ez : z = p := by simpa using hz
      rw [ez]
      exact (o3 b hb).1.2.2.2.2.2 p (List.mem_append_left _ hp)⟩
  have lp : codeAny (model X.prog X.w) X.A (.compLoop (.ListComp elt [⟨tg, iter, ifs, 0⟩] scope pos) 0 (.ref it) (.ref D) ce) (compPost (model X.prog X.w) X.A X.xe use Qf (.ref D) u3.heap.objs.size) u4 := by
    refine compLoop_any (fun n s' => ∃ i H', Inv (X.blk u3 G3 scope ce fp) [p] (wipe σ (own.map (·.2))) H' s' ∧ tn i s'.heap ∧ (∀ b ∈ fp, H' b = none) ∧ W i n H') ?_ k0 ⟨0, G3, Y4, tn4, fpn, v0⟩
    rintro n u5 ⟨i, G5, Y5, tn5, n5, w5⟩
    rcases trn i n G5 w5 with ⟨stop, qq⟩ | ⟨go, Nx, hNx, stp⟩
    · have td := T.done ((X.blk u3 G3 scope ce fp).tr [p] fun _ _ => False) rfl rfl rfl ⟨p, hot, List.mem_cons_self⟩ i [] u5 _ G5 (fun _ _ => False) (Y5.toTry _) (sta Y5 n5) tn5 stop
      refine thnF td fun r u6 ⟨hr, Y6⟩ => ?_
      subst hr
      -- back in the def's context
      have Y7 : Inv X pins σ G5 u6 := Y3.call' (ch := fp) Y6.os Y6.base Y6.hok Y6.bare fun b hb => ⟨(o3 b hb).1.2.2.2.1, (o3 b hb).1.2.1, (o3 b hb).1.2.2.2.2.1, (o3 b hb).1.2.2.2.2.2⟩
      have nC : G5 u3.heap.objs.size = none := by
        have z : G5 ce.locals = none := Y6.free
        rw [cL] at z
        exact z
      obtain ⟨m, hn, _⟩ := Y6.loc
      have hn : u6.heap.Ns ce.locals m := hn
      rw [cL] at hn
      exact fin_ D u3.heap.objs.size u6 m G5 Y7 qq hn (Y3.fpOk (Nat.le_refl _) nC)
    · have ti := T.item ((X.blk u3 G3 scope ce fp).tr [p] fun _ _ => False) rfl rfl rfl ⟨p, hot, List.mem_cons_self⟩ i [] u5 _ G5 (fun _ _ => False) (Y5.toTry _) (sta Y5 n5) tn5 go
      refine thnF ti fun r u6 ⟨u, hr, h6⟩ => ?_
      subst hr
      refine thnF h6 fun _ u7 ⟨x, G7, Y7, r7, y7, tn7, n7⟩ => ?_
      have Y7 := Inv.ofTry (X := X.blk u3 G3 scope ce fp) (pins := [p]) Y7 Y5.ok
      have Y7' := Y7.pinned (sta Y7 n7) (T.obj _ _ tn7)
      refine thnF (pg.run _ u7 _ G7 x u _ Y7' r7 (stp x G7 y7)) fun _ u8 ⟨σ8, G8, Y8, hw8, q8⟩ => ?_
      refine thnF (pt.run _ u8 σ8 G8 _ Y8 q8) fun b u9 ⟨G9, Y9, q9⟩ => ?_
      -- the trn's end
      have fin : ∀ {s' : Shared} {H' : Hp}, Inv (X.blk u3 G3 scope ce fp) ([p] ++ pinsAt fp u7.heap) σ8 H' s' → Nx H' → ∃ m, m < n ∧ ∃ i H', Inv (X.blk u3 G3 scope ce fp) [p] (wipe σ (own.map (·.2))) H' s' ∧ tn i s'.heap ∧ (∀ b ∈ fp, H' b = none) ∧ W i m H' := fun {s' H'} Y' nx => by
        obtain ⟨m', hm, w'⟩ := hNx H' nx
        have pin' : ∀ b ∈ fp, ∀ o, u7.heap.get? b = some o → s'.heap.get? b = some o ∧ H' b = none := fun b hb o e =>
          let z := Y'.pin (b, o) (List.mem_append_right _ (List.mem_append_right _ (mem_pinsAt hb e)))
          ⟨z.1, z.2.1⟩
        have hl : (wipe σ (own.map (·.2))).length = σ8.length := by rw [← hw8, wipe_length]
        refine ⟨m', hm, i + 1, H', (Y'.unpinned (pins := [p])).weak hl (fun j v e => ?_), T.keep _ _ _ tn7 fun b hb o e => (pin' b hb o e).1, fun b hb => ?_, w'⟩
        · rw [← hw8] at e
          exact (wipe_some e).1
        · obtain ⟨o, e, _⟩ := T.obj _ _ tn7 b hb
          exact (pin' b hb o e).2
      cases b with
      | false =>
        simp only [Bool.false_eq_true, if_false] at q9 ⊢
        exact fin Y9 q9
      | true =>
        simp only [if_true] at q9 ⊢
        refine thnF (pe.run _ u9 σ8 G9 _ Y9 q9) fun z s10 ⟨yv, H10, I10, r10, acc, hD10, hz10, nx⟩ => ?_
        exact app_ok (X := X.blk u3 G3 scope ce fp) I10 hD10 hz10 r10 fun s11 I11 => fin I11 nx
  exact codeAny_compStart_list lp (T.self X.A 0 _ _ _ tn4 lp)
theorem pe_lcH {elt tg iter : Expr} {ifs : List Expr} {scope : Scope} {own : List (Str × Nat)} {pos : Pos} {wi : TI} {g : TG} {tt : TT} {te : TE} {p : Addr × Obj} (hp : p ∈ X.pn) (hot : L2H.Hot1 X.A p) (hN : X.N.Nodup) (hi : L2H.PIH X tg iter wi) (ok : BlkOk X.N X.env.scope scope own)
    (hg : ∀ (s : Shared) (H : Hp) (C : Addr) (cl : List (Str × Addr)) (fp : List Addr), PG (X.blk s H scope (compEnvC scope cl C X.env) fp) tg g) (ht : ∀ (s : Shared) (H : Hp) (C : Addr) (cl : List (Str × Addr)) (fp : List Addr), PTs (X.blk s H scope (compEnvC scope cl C X.env) fp) ifs tt)
    (he : ∀ (s : Shared) (H : Hp) (C : Addr) (cl : List (Str × Addr)) (fp : List Addr), PE (X.blk s H scope (compEnvC scope cl C X.env) fp) elt te) (hs : ∀ x, foldedSetIterable iter X.env x = pure x := by intro _; rfl) :
    PE X (.ListComp elt [⟨tg, iter, ifs, 0⟩] scope pos) (tLc wi g tt te (own.map (·.2))) := by
  refine ⟨fun pins s σ H Q J h => ?_⟩
  rw [eval_ListComp]
  refine lc_hot hp hot hN J hi ok hg ht he hs h fun D C s' m H' J' q hn f => ⟨m, hn, fun h'' sb => ?_⟩
  obtain ⟨f0, f1, f2, f3, f4, f5⟩ := f
  exact ⟨.ref D, H', J'.turned (t' := s'.toks) (fun b o hb e => (sb.2 b hb).trans e) f0 f1 f3 f4 f5, rfl, q⟩
/-- a list's walk, the handled exception standing by -/
theorem walks_hot {prog : Program} {w : World} {A : Around} {x1 : Addr} {o1 : Obj} {vs1 : Array Value} (hh : A.handled = some (.ref x1)) (d1 : o1.data = .fields vs1) (c1 : vs1[2]? = some .none) (I ax : Addr) (hne : ax ≠ I) (h1 : x1 ≠ I) (items : Array Value) :
    PySem.Walks prog w A I [I, ax, x1] [I] items.size (fun i v => items[i]? = some v) (fun i h => h.IsListIter I ax i ∧ h.IsList ax items ∧ h.get? x1 = some o1) where
  sub := fun b hb => by simp at hb; simp [hb]
  frame := fun _ _ _ st hk => ⟨st.1.at fun o e => hk I (by simp) o e, st.2.1.at fun o e => hk ax (by simp) o e, hk x1 (by simp) _ st.2.2⟩
  item := fun i s Q E hi st hQ => wpAny_pyNext_list_item st.1 st.2.1 (x := items[i]) (by simp [hi]) fun h' hit' hs' =>
    hQ _ h' s.toks (by simp [hi]) ⟨hit', st.2.1.extBut hs'.extBut hne, hs'.extBut _ _ h1 st.2.2⟩ fun b o hb e => hs'.extBut b o (fun h => hb (by simp [h])) e
  done := fun s Q E st hQ => list_end_hot ⟨hh, o1, vs1, st.2.2, d1, c1⟩ st.1 st.2.1 (by simp) h1 fun h' he' => hQ h' s.toks fun b o hb e => he' b o (fun h => hb (by simp [h])) e
  self := fun _ _ _ _ st hQ => wpAny_pyIter_listiter st.1 hQ
theorem cr_sumH (hc : L2H.HotC X) : CallR X (.builtin "sum") (rSum X.K) := by
  rintro pins s σ H vs us Q J r ⟨a, ns, rfl, hs, q⟩
  obtain ⟨its, rv, hl, _⟩ := J.list hs
  obtain ⟨y, ⟨hh, v1, e1, c1⟩, hy⟩ := hc
  have P1 := J.pin y (List.mem_append_left _ hy)
  have hi := rv.ints
  rw [Vals.ref1 r]
  obtain ⟨xs, e⟩ := hi.allInts.items
  have hn : numsOf (intItems xs).toList = ns := by rw [← e]; exact hi.numsOf
  rw [nums_intItems] at hn
  have hl' := hl.isList
  rw [e] at hl'
  refine call_sum_walkG (wpAny_pyIter_list hl' ?_)
  have na : a ≠ s.heap.objs.size := Nat.ne_of_lt (by obtain ⟨o, ho, _⟩ := hl'; exact Heap.lt_size ho)
  have ny : y.1 ≠ s.heap.objs.size := Nat.ne_of_lt (Heap.lt_size P1.1)
  refine ⟨_, _, _, _, _, _, numAt xs, rfl, walks_hot (A := X.A.in1) hh e1 c1 s.heap.objs.size a na ny (intItems xs), ⟨⟨_, Heap.get?_push_size _ rfl, rfl, rfl⟩, hl'.push _, Heap.get?_push_of_some _ P1.1⟩, fun b hb => ?_, (fun _ _ => intItems_at), fun h' tk t' hk => ?_⟩
  · show b < (s.heap.push _).objs.size
    rw [Heap.size_push]
    simp only [List.mem_cons, List.not_mem_nil, or_false] at hb
    rcases hb with rfl | rfl | rfl
    · exact Nat.lt_succ_self _
    · exact Nat.lt_succ_of_lt (by obtain ⟨o, ho, _⟩ := hl'; exact Heap.lt_size ho)
    · exact Nat.lt_succ_of_lt (Heap.lt_size P1.1)
  · have e3 : preSum (numAt xs) (intItems xs).size = ns.sum := by
      rw [show (intItems xs).size = xs.size by simp [intItems], preSum_eq, List.take_of_length_le (by simp), hn]
    rw [e3]
    refine ⟨.int _, H, J.kept (t' := tk) fun b o e => hk b o (fun hm => ?_) (Heap.get?_push_of_some _ e), ⟨_, rfl⟩, q⟩
    have lt := Heap.lt_size e
    rw [show b = s.heap.objs.size by simpa using hm] at lt
    exact Nat.lt_irrefl _ lt
/-- isinstance(e, c), e what is handled -/
theorem call_isH {D : Addr} {p : Addr × Obj} (hp : p ∈ X.pn) (C : ExcC X.K D) (hz : Zc (.ref D) none p.2) (hf : ∃ vs, p.2.data = .fields vs) : CallR X (.builtin "isinstance") (rIsE X.K D p.1) := by
  rintro pins s σ H xs us Q J r ⟨c, cv, b, rfl, hcv, e, q⟩
  cases r with
  | cons rx rr =>
    cases rr with
    | cons rt rr =>
      cases rr
      cases rx
      obtain rfl := hcv _ rt
      have P1 := (J.pin p (List.mem_append_left _ hp)).1
      obtain ⟨pa, po⟩ := p
      obtain ⟨vs, hv⟩ := hf
      have J1 : PySem.W.InstAt s.heap pa po D none := by
        obtain ⟨oc, od, oda, osl⟩ := po
        obtain ⟨h1, h2⟩ := hz
        dsimp only at h1 h2 hv P1
        subst h1 h2 hv
        exact ⟨P1, rfl, rfl, trivial⟩
      exact PySem.W.kia_one (PySem.W.handS_kitx_exc C.hg C.hk C.hs C.hd C.ha C.hn C.ht C.hm) J.kIn J1 e (fun z => nomatch z) fun tk => ⟨.bl b, H, J.kept (t' := tk) fun _ _ z => z, rfl, q⟩
end
end IL
namespace IL
open PySem PySem.Spec PyProof.Rows L2
abbrev rIntB : List V → Hp → VK → Prop := fun xs H Q => (∃ i, xs = [.int i] ∧ Q (.int i) H) ∨ ∃ k, xs = [.bl k] ∧ Q (.int (if k then 1 else 0)) H
def flagI (b : Bool) : V := .int (if b then 1 else 0)
section
variable {K : PySem.W.Frag} {X : Cx}
theorem sq_upd {H : Hp} {a p : Addr} {xs : List V} {o : HO} (h : SqL K H a xs) (n : H p = none) : SqL K (upd H p o) a xs := by
  rcases h with (h | ⟨ob, h⟩) | h
  · exact .inl (.inl ((upd_ne (ne_of_none h n)).trans h))
  · exact .inl (.inr ⟨ob, (upd_ne (ne_of_none h n)).trans h⟩)
  · exact .inr h
/-- [int(b) for b in bs], in any context -/
theorem lc_flags {σ : L2.St} {H : Hp} {a : Addr} {bs : List Bool} {Q : VK} {i j : Nat} (hs : σ[i]? = some (some (.ref a))) (hj : j < σ.length) (hl : SqL K H a (bs.map V.bl)) (hb : bs.length < 1000)
    (q : ∀ D, H D = none → Q (.ref D) (upd H D (.lst (bs.map flagI)))) : tLc (iList K (tVar i)) (gName j) tYes (tCB rIntB (tCons (tVar j) tNil)) [j] σ H Q := by
  refine ⟨.ref a, hs, a, rfl, ⟨_, hl⟩, fun D hD => ⟨fun n m H' => m = bs.length - n ∧ n ≤ bs.length ∧ H' = upd H D (.lst ((bs.take n).map flagI)), ⟨bs.length, rfl, Nat.zero_le _, rfl⟩, ?_⟩⟩
  rintro n m H' ⟨rfl, hn, rfl⟩
  have hl' : ∀ o, SqL K (upd H D o) a (bs.map V.bl) := fun o => sq_upd hl hD
  by_cases hlt : n < bs.length
  · have en : bs[n]? = some bs[n] := List.getElem?_eq_getElem hlt
    have em : (bs.map V.bl)[n]? = some (.bl bs[n]) := by rw [List.getElem?_map, en]; rfl
    refine .inr ⟨⟨_, _, hl' _, em⟩, fun H2 => H2 = upd H D (.lst ((bs.take (n + 1)).map flagI)), fun H2 e => ⟨bs.length - (n + 1), by omega, rfl, hlt, e⟩, fun x H2 y => ?_⟩
    obtain ⟨eH, ex⟩ := y
    have e2 := ex _ (hl' _)
    rw [em] at e2
    cases e2
    subst eH
    have w1 : L2.wipe ((L2.wipe σ [j]).set j (some (.bl bs[n]))) [j] = L2.wipe σ [j] := by
      show ((σ.set j none).set j (some (.bl bs[n]))).set j none = σ.set j none
      rw [List.set_set, List.set_set]
    have w2 : ((L2.wipe σ [j]).set j (some (.bl bs[n])))[j]? = some (some (.bl bs[n])) := List.getElem?_set_self (by show j < (σ.set j none).length; rw [List.length_set]; exact hj)
    refine ⟨w1, ?_⟩
    refine ⟨_, w2, .inr ⟨bs[n], rfl, _, upd_same, ?_, ?_⟩⟩
    · have : (1000 : Nat) < sizeLine := by decide
      rw [List.length_map, List.length_take]
      omega
    · have e3 : bs.take (n + 1) = bs.take n ++ [bs[n]] := by rw [List.take_succ, en]; rfl
      rw [e3, List.map_append, upd_upd]
      rfl
  · have e : n = bs.length := by omega
    subst e
    refine .inl ⟨⟨_, hl' _, by rw [List.length_map]; exact Nat.le_refl _⟩, ?_⟩
    rw [List.take_length]
    exact q D hD
/-- isinstance(e, C), e what is handled -/
theorem pe_isH {p : Addr × Obj} {D : Addr} {i : Nat} {x y : Str} {c : V} {cv : Value} {b : Bool} {q q1 q2 pos : Pos} (hp : p ∈ X.pn) (C : ExcC X.K D) (hz : Zc (.ref D) none p.2) (hf : ∃ vs, p.2.data = .fields vs) (hN : X.N[i]? = some y) (hv : Vis X.env.scope y) (hc : PE X (.Name x q2) (tC c)) (hcv : ∀ u, RelV c u → u = cv)
    (e : PySem.W.kitOne X.K (.ref D) cv = some b) (hg : Gl X "isinstance") (hm : X.mg "isinstance" = none) (hd : (y == ("__debug__" : Str)) = false := by decide) (hcd : (y == ("__classdict__" : Str)) = false := by decide)
    (he : starEach [.Name y q1, .Name x q2] X.env = (false, eval (.Name y q1) X.env) :: starEach [.Name x q2] X.env := by rfl) (he2 : starEach [.Name x q2] X.env = (false, eval (.Name x q2) X.env) :: starEach [] X.env := by rfl) (hpl : (backTo pos (starEach [.Name x q2] X.env)).any (·.1) = false := by rfl) :
    PE X (.Call (.Name "isinstance" q) [.Name y q1, .Name x q2] [] pos) fun σ H Q => σ[i]? = some (some (.ref p.1)) ∧ Q (.bl b) H := by
  have z := pe_callB (p := q) (call_isH hp C hz hf) hg hm (by decide +kernel) (pa_cons (pe_var (pos := q1) hN hv hd hcd) (pa_cons hc pa_nil he2) he) (by decide) (by decide) he hpl
  exact pe_imp z fun σ H Q ⟨h1, h2⟩ => ⟨_, h1, c, cv, b, rfl, hcv, e, h2⟩
end
/-! ### the word's def -/
def nmX : XC → Str
  | .path => "BadPath"
  | .state => "BadState"
  | .deed => "BadDeed"
  | .look => "BadLook"
  | .number => "BadNumber"
  | .storm => "Storm"
  | .text => "BadText"
/-- what the top has written of the refusals of cs -/
structure ExcAll (cs : List XC) (ca : XC → Addr) (K : PySem.W.Frag) (mg : Str → Option Value) : Prop where
  C : ∀ c ∈ cs, ExcC K (ca c)
  kit : ∀ c ∈ cs, ∀ d ∈ cs, PySem.W.kitOne K (.ref (ca c)) (.ref (ca d)) = some (decide (c = d))
  kitV : ∀ c ∈ cs, PySem.W.kitOne K (.ref (ca c)) (.type "ValueError") = some true
  g : ∀ c ∈ cs, mg (nmX c) = some (.ref (ca c))
  ve : mg "ValueError" = none
  isi : mg "isinstance" = none
  sm : mg "sum" = none
  it : mg "int" = none
section
variable {T : Gam} {ca : XC → Addr} {P : Program} {w : World} {K : PySem.W.Frag} {mg : Str → Option Value} {base : Heap}
theorem run_word {cs : List XC} {x : Str} {st : Stmt} {f : Addr} {fd : FuncData} {N ps : List Str} {k : Nat} (F : L2.Fun K x x st f fd) (S : FnScope N ps (defScope st)) (hps : ps.length = 1)
    (hbody : ∀ (CX : CXT) (cdv : Value) (A : Around) (outer : List PySem.Env) (s : Shared) (H : Hp) (Q : VK) (E : XK) (p : Addr × Obj) (c : XC) (S : List Addr), L2H.Hot1 A p → p.2.cls = .ref (ca c) → p.2.dict = none → (∃ vs, p.2.data = .fields vs) → c ∈ cs → Live T S H → (∀ v H', Pe T H H' → Rp K (hide S H') v (refused nmX c) → Q v H') →
      ∃ t, PSs (L2H.cxH CX P w K mg base N x (defScope st) f cdv A outer s H E p) (defBody st) t ∧ t { nx := fun _ H' => Q .non H', rt := Q } (L2.start N [.ref p.1]) H) : FnW cs T ca nmX P w K mg base (k + 1) f fd ps := by
  obtain ⟨oc, od, kV, doc, pm, an, cdv, ct, osl, rfl, lk, hcd⟩ := F.ex
  refine ⟨fun CX A outer s H args Q E p c S0 hr hot hpin e0 hb z1 z2 hcs lv hq => ?_⟩
  have KX := e0.mod.kin.keeps fun b o e => (e0.bs b o e).1
  have hkd : ∀ y ∈ ps.zip [Value.ref p.1], (defScope st).names.lookup y.1 = some .local ∨ ((defScope st).names.lookup y.1 = some .cell ∧ ((cellsFrom (s.heap.objs.size + 1) (defScope st).names []).lookup y.1).isSome = true) := fun ⟨n, v⟩ hy => by
    rcases S.par n (List.of_mem_zip hy).1 with q | q
    · exact .inl q
    · exact .inr ⟨q, PySem.W.cellsFrom_some _ _ _ (.inl q)⟩
  refine codeAny_call_function hr.depth (KX _ _ lk) rfl S.co S.gen rfl (PySem.W.codeRec_of KX hcd) (hb _ _ _ _ ?_)
  refine wpAny_newFunctionEnv_cells S.kind hkd fun env he s1 y => ?_
  subst he
  refine ⟨(e0.mod.nolimit.keeps fun b o e => (e0.bs b o e).1).keeps y.toInCall.keep, codeAny_func ?_⟩
  have hf : ∃ vs, p.2.data = .fields vs := let ⟨_, vs, e, _⟩ := hot; ⟨vs, e⟩
  obtain ⟨t, ht, h⟩ := hbody CX cdv A outer s H Q E p c S0 hot z1 z2 hf hcs lv hq
  have J : Inv (L2H.cxH CX P w K mg base N x (defScope st) f cdv A outer s H E p) [] (L2.start N [.ref p.1]) H s1 := L2H.inv_startH (us := [.ref p.1]) (vs := [.ref p.1]) S hpin e0 hps.symm (.cons rfl .nil) y
  refine wpAny_mono (ht.run [] s1 _ H _ J h) (fun fl s' hs => ?_) fun e s' hs => hs
  match fl, hs with
  | .ret u, ⟨v, σ', H', J', rv, q⟩ => exact ⟨v, H', J'.os, J'.bare, J'.base, J'.hok, rv, q⟩
  | .next, ⟨σ', H', J', q⟩ => exact ⟨V.non, H', J'.os, J'.bare, J'.base, J'.hok, rfl, q⟩
  | .brk, ⟨_, _, _, q⟩ => exact q.elim
  | .cont, ⟨_, _, _, q⟩ => exact q.elim
end
end IL
namespace IL
open PySem PySem.Spec PyProof.Rows L2
/-! ### {(..): v, ..} -/
def tDispT (trs : List (TE × TE)) : TE := fun σ H Q => ∀ p, H p = none → tPairs trs σ (upd H p (.dT [])) fun ps H2 => H2 p = some (.dT []) ∧ ∃ kvs : List (List Key × Addr × V), ps = kvs.map (fun kv => (V.ref kv.2.1, kv.2.2)) ∧
  (∀ kv ∈ kvs, H2 kv.2.1 = some (.tup (kv.1.map kV))) ∧ (kvs.map (·.1)).Nodup ∧ kvs.length ≤ 15 ∧ Q (.ref p) (upd H2 p (.dT (kvs.map fun kv => (kv.1, kv.2.2))))
theorem carriesH_of {P : Program} {w : World} {H : Hp} {h : Heap} (ok : HOk P w H h) : ∀ {kvs : List (List Key × Addr × V)} {ws : List (Value × Value)}, VV (kvs.map fun kv => (V.ref kv.2.1, kv.2.2)) ws → (∀ kv ∈ kvs, H kv.2.1 = some (.tup (kv.1.map kV))) →
    ∃ rs : List (List Key × Addr × Value), CarriesH (tupleKind (mixKind P w)) h ws rs ∧ KT H (kvs.map fun kv => (kv.1, kv.2.2)) rs ∧ rs.map (·.1) = kvs.map (·.1)
  | [], _, r, _ => by rw [List.map_nil] at r; cases r; exact ⟨[], True.intro, .nil, rfl⟩
  | p :: kvs, _, r, hk => by
    rw [List.map_cons] at r
    cases r with
    | @cons a b as bs h t =>
      obtain ⟨rs, c, q, e⟩ := carriesH_of ok t fun kv hm => hk kv (List.mem_cons_of_mem _ hm)
      obtain ⟨b1, b2⟩ := b
      have hp := hk p List.mem_cons_self
      cases (show b1 = Value.ref p.2.1 from h.1)
      exact ⟨(p.1, p.2.1, b2) :: rs, ⟨rfl, rfl, key_of ok hp, c⟩, .cons ⟨rfl, hp, h.2⟩ q, by rw [List.map_cons, List.map_cons, e]⟩
theorem pe_dispT {X : Cx} {pos : Pos} {keys : List (Option Expr)} {values : List Expr} {trs : List (TE × TE)} (hu : X.A.units + 1 < cLine) (h : PPs X pos keys values trs) (hall : keys.all (·.isSome) = true) (hl : keys.length = values.length) (h0 : keys ≠ [])
    (h15 : keys.length ≤ 15) : PE X (.Dict keys values pos) (tDispT trs) := by
  refine ⟨fun pins s σ H Q I q => ?_⟩
  have hn := I.hok.fresh (Nat.le_refl s.heap.objs.size)
  have I1 := I.laid (a := s.heap.objs.size) (o := .dT []) (h' := s.heap.push { cls := .type "dict", data := .dict #[] }) (t' := s.toks) (fun _ _ q => Heap.get?_push_of_some _ q) (Nat.le_refl _) (dt_empty s.heap I.big)
  have en := pairTrees_length keys values X.env pos hall hl
  have ne : pairTrees keys values X.env pos ≠ [] := fun z => by
    rw [z] at en
    exact h0 (List.length_eq_zero_iff.mp en.symm)
  rw [arm_eval_Dict, zip_pairTrees keys values X.env pos hall hl, dictDisplay_pairs _ ne (by omega)]
  refine wpAny_bind (wpAny_standAt (wpAny_bind (wpAny_subDictH (knd := tupleKind (mixKind X.prog X.w)) (Q := fun d s' => wpAny (model X.prog X.w) X.A (pure (Value.ref d)) (EP X pins σ Q) X.xe s') ?_ (by omega) (thn (h.run pins _ σ _ _ I1 (q _ hn)) fun ws s2 ⟨ps, H2, I2, rel, e, kvs, ep, hk, nd, lk, q2⟩ => ?_))))
  · show X.A.units < cLine
    omega
  · subst ep
    obtain ⟨rs, c, rk, er⟩ := carriesH_of I2.hok rel hk
    obtain ⟨z, hd, vs0, r0, dd⟩ := dt_of I2.hok e
    cases r0
    refine ⟨rs, c, dd, fun h' tk dd' hs => wpAny_pure ⟨.ref s.heap.objs.size, _, ?_, rfl, q2⟩⟩
    rw [storedAllH_nil_of_nodup _ (by rw [er]; exact nd)] at dd'
    obtain ⟨qo, es, epo, hq, x1, x2, x3, _, x5⟩ := dd'
    refine d_write I2 (by rw [e]; exact True.intro) hs ⟨qo, hq⟩ ⟨by rw [List.length_map, sizeLine_eq]; omega, hd, rs, rk.keeps fun b ys eb => ?_, qo, es, epo, hq, x1, x2, x3, x5⟩
    rw [upd_ne (ne_of eb e (fun z => nomatch z))]
    exact eb
/-! ### an object that is being made -/
section
variable {T : Gam} {K : PySem.W.Frag} {S : List Addr} {H H4 : Hp} {p : Addr} {o o0 : HO}
theorem le_new (hp : H p = none) : RdLe (hide S H) (hide (p :: S) (upd H p o)) := by
  have q : ∀ {a : Addr} {u : HO}, hide S H a = some u → hide (p :: S) (upd H p o) a = some u := fun {a u} e => by
    obtain ⟨h1, h2⟩ := hide_some e
    have ne : a ≠ p := ne_of_none h2 hp
    rw [hide_in (by intro z; rcases List.mem_cons.mp z with z | z; exact ne z; exact h1 z), upd_ne ne]
    exact h2
  exact ⟨fun a u _ r => r.imp q fun ⟨ob, r⟩ => ⟨ob, q r⟩, fun a xs _ r => q r⟩
theorem le_pub : RdLe (hide (p :: S) H) (hide S (upd H p o)) := by
  have q : ∀ {a : Addr} {u : HO}, hide (p :: S) H a = some u → hide S (upd H p o) a = some u := fun {a u} e => by
    obtain ⟨h1, h2⟩ := hide_some e
    rw [hide_in (fun z => h1 (List.mem_cons_of_mem _ z)), upd_ne (fun z => h1 (by rw [z]; exact List.mem_cons_self))]
    exact h2
  exact ⟨fun a u _ r => r.imp q fun ⟨ob, r⟩ => ⟨ob, q r⟩, fun a xs _ r => q r⟩
theorem pe_pub (hp : H p = none) (pe : Pe T H H4) (h4 : H4 p = some o0) (h0 : isOwn o0 = true) (ho : isTbl o = false) : Pe T H (upd H4 p o) := by
  refine ⟨fun c u h n => ?_, fun c h => ?_, fun t => TabC.upd (pe.tb t) h4 (isTbl_of_own h0) (fix_of_own h0)⟩
  · rw [upd_ne (ne_of_none h hp)]
    exact pe.st c u h n
  · by_cases hcp : c = p
    · rw [hcp]; exact hp
    · rw [upd_ne hcp] at h
      exact pe.fr c h
theorem live_new (lv : Live T S H) (hp : H p = none) (h0 : isOwn o = true) : Live T (p :: S) (upd H p o) := by
  have pn : Pe T H (upd H p o) := .new hp (isTbl_of_own h0)
  refine ⟨fun a ha => ?_, pn.tb lv.tb⟩
  rcases List.mem_cons.mp ha with rfl | ha
  · exact ⟨o, upd_same, h0⟩
  · exact (lv.le pn).own a ha
end
/-! ### pairs -/
def mPairs : List (Ev × Ev) → Env → Res (List (D × D))
  | [], _ => .ok []
  | p :: r, env => (p.1 env).bind fun k => (p.2 env).bind fun v => (mPairs r env).bind fun ps => .ok ((k, v) :: ps)
def gDispT (ps : List (D × D)) : Option D := if (ps.all fun p => (keyT p.1).isSome) && decide ((ps.map fun p => keyT p.1).Nodup) && decide (ps.length ≤ 15) = true then some (.dict ps) else none
def mDispT (prs : List (Ev × Ev)) : Ev := fun env => (mPairs prs env).bind fun ps => ofO (gDispT ps)
def Rps (K : PySem.W.Frag) (S : List Addr) : Hp → List (V × V) → List (D × D) → Prop := fun H vs ps => RpAll K (hide S H) (vs.map (·.1)) (ps.map (·.1)) ∧ RpAll K (hide S H) (vs.map (·.2)) (ps.map (·.2))
structure IPs (T : Gam) (ca : XC → Addr) (X : Cx) (W : WX) (pos : Pos) (keys : List (Option Expr)) (values : List Expr) (prs : List (Ev × Ev)) : Prop where
  pp : PPs X pos keys values (prs.map fun p => (tI T ca X.K W p.1, tI T ca X.K W p.2))
section
variable {T : Gam} {ca : XC → Addr} {X : Cx} {W : WX} {pos : Pos} {keys : List (Option Expr)} {values : List Expr} {prs : List (Ev × Ev)} {k v : Expr} {mk mv : Ev}
theorem ips_nil : IPs T ca X W pos [] [] [] := ⟨pps_nil⟩
theorem ips_cons (hk : IE T ca X W k mk) (hv : IE T ca X W v mv) (h : IPs T ca X W pos keys values prs) : IPs T ca X W pos (some k :: keys) (v :: values) ((mk, mv) :: prs) := ⟨pps_cons hk.pe hv.pe h.pp⟩
theorem pairs_of {K : PySem.W.Frag} {S : List Addr} {env : Env} {σ : L2.St} : ∀ {prs : List (Ev × Ev)} {H : Hp} {Q : List (V × V) → Hp → Prop}, Live T S H → RelE K (hide S H) env σ → Fin T ca (Rps K S) W σ H (mPairs prs env) Q → tPairs (prs.map fun p => (tI T ca K W p.1, tI T ca K W p.2)) σ H Q
  | [], H, Q, lv, rel, fin => fin [] H .refl ⟨.nil, .nil⟩
  | p :: r, H, Q, lv, rel, fin => ⟨S, env, lv, rel, Fin.bind (R' := Rv K S) fin fun d x H1 _ p1 r1 f1 => ⟨S, env, lv.le p1, rel.le p1, Fin.bind (R' := Rv K S) f1 fun e y H2 _ p2 r2 f2 =>
      pairs_of ((lv.le p1).le p2) ((rel.le p1).le p2) (Fin.bind (R' := Rps K S) f2 fun ps vs H3 _ p3 r3 f3 => f3 _ H3 .refl ⟨.cons ((Rp.le p2.rd r1).le p3.rd) r3.1, .cons (Rp.le p3.rd r2) r3.2⟩)⟩⟩
theorem keyed {K : PySem.W.Frag} {S : List Addr} {H : Hp} : ∀ {vs : List (V × V)} {ps : List (D × D)}, Rps K S H vs ps → (ps.all fun p => (keyT p.1).isSome) = true →
    ∃ kvs : List (List Key × Addr × V), vs = kvs.map (fun kv => (V.ref kv.2.1, kv.2.2)) ∧ (∀ kv ∈ kvs, H kv.2.1 = some (.tup (kv.1.map kV))) ∧ (kvs.map fun kv => some kv.1) = ps.map (fun p => keyT p.1) ∧ RpT K (hide S H) (kvs.map fun kv => (kv.1, kv.2.2)) ps
  | [], [], _, _ => ⟨[], rfl, fun _ h => absurd h (by simp), rfl, .nil⟩
  | v :: vs, p :: ps, ⟨r1, r2⟩, h => by
    cases r1 with
    | cons h1 r1 =>
      cases r2 with
      | cons h2 r2 =>
        rw [List.all_cons, Bool.and_eq_true] at h
        obtain ⟨kvs, e1, e2, e3, e4⟩ := keyed (vs := vs) (ps := ps) ⟨r1, r2⟩ h.2
        obtain ⟨k, hk⟩ := Option.isSome_iff_exists.mp h.1
        obtain ⟨q, e5, e6, e7⟩ := key_rp h1 hk
        obtain ⟨v1, v2⟩ := v
        obtain ⟨p1, p2⟩ := p
        dsimp only at e5 e7 hk h2
        subst e5 e7
        refine ⟨(k, q, v2) :: kvs, by rw [e1] <;> rfl, fun kv hm => ?_, by rw [List.map_cons, List.map_cons, e3, hk], .cons h2 e4⟩
        rcases List.mem_cons.mp hm with rfl | hm
        · exact e6
        · exact e2 kv hm
  | [], _ :: _, ⟨r1, _⟩, _ => nomatch r1
  | _ :: _, [], ⟨r1, _⟩, _ => nomatch r1
theorem ie_dispT (hu : X.A.units + 64 < cLine) (h : IPs T ca X W pos keys values prs) (hall : keys.all (·.isSome) = true := by rfl) (hl : keys.length = values.length := by rfl) (h0 : keys ≠ [] := by exact fun z => nomatch z) (h15 : keys.length ≤ 15 := by exact of_decide_eq_true rfl) : IE T ca X W (.Dict keys values pos) (mDispT prs) :=
  ⟨pe_imp (pe_dispT (by omega) h.pp hall hl h0 h15) fun σ H Q ⟨S, env, lv, rel, fin⟩ p hp => pairs_of (live_new lv hp rfl) ⟨rel.len, fun i d e => let ⟨v, h1, h2⟩ := rel.at_ i d e; ⟨v, h1, h2.le (le_new hp)⟩⟩ (by
    have pn : Pe T H (upd H p (.dT [])) := .new hp
    unfold mDispT at fin
    cases hm : mPairs prs env with
    | ok ps =>
      rw [hm] at fin
      intro vs H2 p2 r2
      have h2 : H2 p = some (.dT []) := p2.st p _ upd_same rfl
      obtain ⟨z, hz, w⟩ := Fin.some (show Fin T ca (Rv X.K S) W σ H (ofO (gDispT ps)) Q from fin)
      unfold gDispT at hz
      split at hz
      · rename_i hc
        cases hz
        rw [Bool.and_eq_true, Bool.and_eq_true] at hc
        obtain ⟨⟨c1, c2⟩, c3⟩ := hc
        obtain ⟨kvs, e1, e2, e3, e4⟩ := keyed r2 c1
        have nd : (kvs.map (·.1)).Nodup := by
          have z : (kvs.map fun kv => some kv.1).Nodup := by rw [e3]; exact of_decide_eq_true c2
          unfold List.Nodup at z ⊢
          rw [List.pairwise_map] at z ⊢
          exact z.imp fun h e => h (congrArg some e)
        have hl : kvs.length = ps.length := by
          have := congrArg List.length e3
          simpa using this
        exact ⟨h2, kvs, e1, e2, nd, by rw [hl]; exact of_decide_eq_true (of_decide_eq_true c3), w _ _ (pe_pub hp (pn.trans p2) h2 rfl rfl) (.dT (.inl ((hide_in (lv.no hp)).trans upd_same)) (e4.le le_pub))⟩
      · cases hz
    | exc c => rw [hm] at fin; exact fun H2 p2 => fin H2 (pn.trans p2)
    | stuck => rw [hm] at fin; exact fin)⟩
end
end IL
namespace IL
open PySem PySem.Spec PyProof.Rows L2
/-! ### slices -/
abbrev rSlG (K : PySem.W.Frag) : V → Option Int → Option Int → Hp → VK → Prop := fun x lo hi H Q => (rSlL K x lo hi H Q ∨ rSlA K x lo hi H Q) ∨ rSlS x lo hi H Q
structure IO (T : Gam) (ca : XC → Addr) (X : Cx) (W : WX) (e : Option Expr) (m : Option Ev) : Prop where
  po : ∃ t, PO X e t ∧ ∀ S env σ H (Q : Option Int → Hp → Prop), Live T S H → RelE X.K (hide S H) env σ → Fin T ca (fun _ (a b : Option Int) => a = b) W σ H (mPart m env) Q → t σ H Q
section
variable {T : Gam} {ca : XC → Addr} {X : Cx} {W : WX} {e a b : Expr} {pos p2 : Pos} {ma mb : Ev} {lo hi : Option Expr} {ml mh : Option Ev}
theorem io_no : IO T ca X W none none := ⟨⟨_, po_none, fun S env σ H Q lv rel fin => fin none H .refl rfl⟩⟩
theorem io_some (h : IE T ca X W e ma) : IO T ca X W (some e) (some ma) := ⟨⟨_, po_some h.pe, fun S env σ H Q lv rel fin => ⟨S, env, lv, rel, by
  unfold mPart at fin
  refine Fin.bind (R' := Rv X.K S) fin fun d v H1 _ p1 r1 f1 => ?_
  cases d with
  | int i =>
    cases rp_int r1
    exact ⟨i, rfl, f1 _ H1 .refl rfl⟩
  | _ => exact f1.elim⟩⟩⟩
theorem cut_rp {K : PySem.W.Frag} {G : Hp} {vs : List V} {ds : List D} (r : RpAll K G vs ds) (l h : Option Int) : RpAll K G (cutV vs l h) (cutL ds l h) := by
  unfold cutV cutL
  rw [r.length]
  exact (r.drop _).take _
theorem cut_all {ds : List D} {l h : Option Int} (e : HT.sIx ds.length 0 l = 0 ∧ HT.sIx ds.length ds.length h = ds.length) : cutL ds l h = ds := by
  unfold cutL
  rw [e.1, e.2]
  simp
theorem imp_sl {S : List Addr} {H : Hp} {Q : VK} {x : V} {d z : D} {l h : Option Int} (lv : Live T S H) (r : Rp X.K (hide S H) x d) (g : gSl d l h = some z) (w : Wants T X.K S H z Q) : rSlG X.K x l h H Q := by
  cases d with
  | list ds =>
    cases g
    obtain ⟨a, xs, rfl, h1, rr⟩ := rp_lst r
    exact .inl (.inl ⟨a, xs, rfl, sqL_hide h1, fun p hp => w.nlst lv (cut_rp rr l h) p hp⟩)
  | tuple ds =>
    cases g
    obtain ⟨a, xs, rfl, h1, rr⟩ := rp_tup r
    refine .inl (.inr ⟨a, xs, rfl, tup_hide h1, fun hw => ?_, fun _ p hp => w.ntup lv (cut_rp rr l h) p hp⟩)
    rw [rr.length] at hw
    rw [cut_all hw] at w
    exact w.same r
  | str s =>
    have g' : (if big s.length = true then some (PyData.str (cutS s l h)) else none) = some z := g
    split at g'
    · rename_i hb
      cases g'
      cases rp_str r
      exact .inr ⟨s, rfl, big_ok hb, w.str⟩
    · cases g'
  | _ => cases g
theorem ie_sl (ha : IE T ca X W a ma) (hl : IO T ca X W lo ml) (hh : IO T ca X W hi mh) : IE T ca X W (.Subscript a (.Slice lo hi none p2) pos) (mSl ma ml mh) := by
  obtain ⟨tl, pl, ql⟩ := hl.po
  obtain ⟨th, ph, qh⟩ := hh.po
  exact ⟨pe_imp (pe_slice ((sl_list.or sl_tupA).or sl_str) ha.pe pl ph) fun σ H Q ⟨S, env, lv, rel, fin⟩ => ⟨S, env, lv, rel, Fin.bind (R' := Rv X.K S) fin fun d v H1 _ p1 r1 f1 =>
    ql S env σ H1 _ (lv.le p1) (rel.le p1) (Fin.bind (R' := fun _ (a b : Option Int) => a = b) f1 fun l l' H2 _ p2 e2 f2 => by
      cases (show l' = l from e2)
      exact qh S env σ H2 _ ((lv.le p1).le p2) ((rel.le p1).le p2) (Fin.bind (R' := fun _ (a b : Option Int) => a = b) f2 fun h h' H3 _ p3 e3 f3 => by
        cases (show h' = h from e3)
        obtain ⟨z, hz, w⟩ := f3.some
        exact imp_sl (((lv.le p1).le p2).le p3) ((Rp.le p2.rd r1).le p3.rd) hz w))⟩⟩
/-! ### {k: v}, the key a text or an int -/
def gDisp1 : D → D → Option D
  | .str x, v => some (.dict [(.str x, v)])
  | .int i, v => some (.dict [(.int i, v)])
  | _, _ => none
theorem ie_disp1 {k v : Expr} {mk mv : Ev} (hk : IE T ca X W k mk) (hv : IE T ca X W v mv) : IE T ca X W (.Dict [some k] [v] pos) (m2 gDisp1 mk mv) :=
  ⟨pe_imp (pe_disp (pps_cons hk.pe hv.pe pps_nil) rfl rfl (fun z => nomatch z) (by show 1 ≤ 15; decide)) fun σ H Q ⟨S, env, lv, rel, fin⟩ p hp => by
    have pn : Pe T H (upd H p (.dK [])) := .new hp
    have lv1 : Live T (p :: S) (upd H p (.dK [])) := live_new lv hp rfl
    have rel1 : RelE X.K (hide (p :: S) (upd H p (.dK []))) env σ := ⟨rel.len, fun i d e => let ⟨v, h1, h2⟩ := rel.at_ i d e; ⟨v, h1, h2.le (le_new hp)⟩⟩
    refine ⟨p :: S, env, lv1, rel1, ?_⟩
    unfold m2 at fin
    cases h1 : mk env with
    | exc c => rw [h1] at fin; exact fun H' p' => fin H' (pn.trans p')
    | stuck => rw [h1] at fin; exact fin
    | ok d =>
      rw [h1] at fin
      intro x H1 p1 r1
      refine ⟨p :: S, env, lv1.le p1, rel1.le p1, ?_⟩
      have fin : Fin T ca (Rv X.K S) W σ H ((mv env).bind fun e => ofO (gDisp1 d e)) Q := fin
      cases h2 : mv env with
      | exc c => rw [h2] at fin; exact fun H' p' => fin H' ((pn.trans p1).trans p')
      | stuck => rw [h2] at fin; exact fin
      | ok e =>
        rw [h2] at fin
        intro y H2 p2 r2
        have hH : H2 p = some (.dK []) := (p1.trans p2).st p _ upd_same rfl
        obtain ⟨z, hz, w⟩ := Fin.some (show Fin T ca (Rv X.K S) W σ H (ofO (gDisp1 d e)) Q from fin)
        have key : ∃ k : Key, x = kV k ∧ z = .dict [(kD k, e)] := by
          cases d with
          | str s => cases hz; exact ⟨.inr s, rp_str r1, rfl⟩
          | int i => cases hz; exact ⟨.inl i, rp_int r1, rfl⟩
          | _ => cases hz
        obtain ⟨k, rfl, rfl⟩ := key
        exact ⟨hH, [(k, y)], rfl, (by show 1 ≤ 15; decide), w _ _ (pe_pub hp ((pn.trans p1).trans p2) hH rfl rfl) (.dK (.inl ((hide_in (lv.no hp)).trans upd_same)) (.cons (Rp.le le_pub r2) .nil))⟩⟩
/-! ### flat data in a written tuple or list -/
def flatD : D → Option V
  | .none => some .non
  | .bool b => some (.bl b)
  | .int i => some (.int i)
  | .str x => some (.str x)
  | _ => none
def flatDs : List D → Option (List V)
  | [] => some []
  | d :: r => (flatD d).bind fun v => (flatDs r).map (v :: ·)
def gInF : D → D → Option D
  | d, .tuple es => (flatD d).bind fun v => (flatDs es).map fun vs => .bool (inV v vs)
  | d, .list es => (flatD d).bind fun v => (flatDs es).map fun vs => .bool (inV v vs)
  | _, _ => none
theorem flat_rp {K : PySem.W.Frag} {G : Hp} {v x : V} {d : D} (r : Rp K G v d) (e : flatD d = some x) : v = x ∧ flatV x = true := by
  cases r <;> first | (cases e; exact ⟨rfl, rfl⟩) | cases e
theorem flats_rp {K : PySem.W.Frag} {G : Hp} : ∀ {vs xs : List V} {ds : List D}, RpAll K G vs ds → flatDs ds = some xs → vs = xs ∧ xs.all flatV = true
  | _, _, _, .nil, e => by cases e; exact ⟨rfl, rfl⟩
  | _, _, _, .cons h r, e => by
    obtain ⟨x, h1, h2⟩ := Option.bind_eq_some_iff.mp e
    obtain ⟨xs, h3, rfl⟩ := Option.map_eq_some_iff.mp h2
    obtain ⟨rfl, f1⟩ := flat_rp h h1
    obtain ⟨rfl, f2⟩ := flats_rp r h3
    exact ⟨rfl, by rw [List.all_cons, f1, f2]; rfl⟩
theorem imp_inF : Imp2 T X.K (rIn X.K false) gInF := by
  intro S x y d e z H Q lv r1 r2 g w
  unfold gInF at g
  split at g
  · obtain ⟨v, h1, h2⟩ := Option.bind_eq_some_iff.mp g
    obtain ⟨vs, h3, rfl⟩ := Option.map_eq_some_iff.mp h2
    obtain ⟨a, xs, rfl, h4, rr⟩ := rp_tup r2
    obtain ⟨rfl, f1⟩ := flat_rp r1 h1
    obtain ⟨rfl, f2⟩ := flats_rp rr h3
    exact ⟨a, _, rfl, .inr (tup_hide h4), f1, f2, w.bl⟩
  · obtain ⟨v, h1, h2⟩ := Option.bind_eq_some_iff.mp g
    obtain ⟨vs, h3, rfl⟩ := Option.map_eq_some_iff.mp h2
    obtain ⟨a, xs, rfl, h4, rr⟩ := rp_lst r2
    obtain ⟨rfl, f1⟩ := flat_rp r1 h1
    obtain ⟨rfl, f2⟩ := flats_rp rr h3
    exact ⟨a, _, rfl, .inl (sqL_hide h4), f1, f2, w.bl⟩
  · cases g
/-! ### a written dict of ints by texts -/
structure KInts (K : PySem.W.Frag) (w : World) (mg : Str → Option Value) (x : Str) (f : Str → Option Int) : Prop where
  ex : ∃ d es n, mg x = some (.ref d) ∧ KDict K w d es n ∧ ∀ z, (f z = none ∧ PySem.W.nsIn K d z = some none) ∨ ∃ i t, f z = some i ∧ PySem.W.nsIn K d z = some (some (.int i t))
def gInK (f : Str → Option Int) : D → Option D
  | .str z => some (.bool (f z).isSome)
  | _ => none
def gGetK (f : Str → Option Int) : D → Option D
  | .str z => (f z).map .int
  | _ => none
theorem ie_inK {x : Str} {f : Str → Option Int} (D : KInts X.K X.w X.mg x f) (ha : IE T ca X W a ma) (hg : Gl X x := by rfl) (hd : (x == ("__debug__" : Str)) = false := by decide) : IE T ca X W (.Compare a [.In] [.Name x p2] pos) (m1 (gInK f) ma) := by
  obtain ⟨d, es, n, hm, kd, hf⟩ := D.ex
  exact ⟨pe_imp (pe_cmpR (op_in_kd kd) ha.pe (pe_glob (v := .ref d) hg hm rfl hd) (by rfl)) fun σ H Q ⟨S, env, lv, rel, fin⟩ => ⟨S, env, lv, rel, Fin.bind (R' := Rv X.K S) fin fun e v H1 _ p1 r1 f1 => by
    obtain ⟨z, hz, w⟩ := f1.some
    cases e with
    | str s =>
      cases hz
      cases rp_str r1
      rcases hf s with ⟨e1, e2⟩ | ⟨i, t, e1, e2⟩
      · rw [e1] at w
        exact ⟨s, _, rfl, rfl, e2, Wants.bl (T := T) (K := X.K) (S := S) w⟩
      · rw [e1] at w
        exact ⟨s, _, rfl, rfl, e2, Wants.bl (T := T) (K := X.K) (S := S) w⟩
    | _ => cases hz⟩⟩
theorem ie_getK {x : Str} {f : Str → Option Int} (D : KInts X.K X.w X.mg x f) (hb : IE T ca X W b mb) (hs : PlainIx b := by exact fun _ _ => rfl) (hg : Gl X x := by rfl) (hd : (x == ("__debug__" : Str)) = false := by decide) : IE T ca X W (.Subscript (.Name x p2) b pos) (m1 (gGetK f) mb) := by
  obtain ⟨d, es, n, hm, kd, hf⟩ := D.ex
  exact ⟨pe_imp (pe_ix ix_kdict (pe_glob (v := .ref d) hg hm rfl hd) hb.pe hs) fun σ H Q ⟨S, env, lv, rel, fin⟩ => ⟨S, env, lv, rel, Fin.bind (R' := Rv X.K S) fin fun e v H1 _ p1 r1 f1 => by
    obtain ⟨z, hz, w⟩ := f1.some
    cases e with
    | str s =>
      obtain ⟨i, hi, rfl⟩ := Option.map_eq_some_iff.mp hz
      cases rp_str r1
      rcases hf s with ⟨e1, e2⟩ | ⟨i', t, e1, e2⟩
      · rw [e1] at hi; cases hi
      · rw [e1] at hi
        cases hi
        exact ⟨d, s, .int i, rfl, rfl, ⟨es, n, _, kd.at_, kd.lit, e2, ⟨t, rfl⟩⟩, Wants.int (T := T) (K := X.K) (S := S) w⟩
    | _ => cases hz⟩⟩
end
end IL
namespace IL
open PySem PySem.Spec PyProof.Rows L2
section
variable {T : Gam} {ca : XC → Addr} {X : Cx} {W : WX} {pos p2 : Pos}
theorem ie_gi {x : Str} {n : Int} (h : ∃ t, X.mg x = some (.int n t)) (hg : Gl X x := by rfl) (hd : (x == ("__debug__" : Str)) = false := by decide) : IE T ca X W (.Name x pos) (mC (.int n)) := let ⟨_, e⟩ := h; ie_gint e hg hd
theorem ie_gs {x z : Str} (h : ∃ t, X.mg x = some (.str z t)) (hg : Gl X x := by rfl) (hd : (x == ("__debug__" : Str)) = false := by decide) : IE T ca X W (.Name x pos) (mC (.str z)) := let ⟨_, e⟩ := h; ie_gstr e hg hd
theorem ie_dict0 : IE T ca X W (.Dict [] [] pos) (mC (.dict [])) :=
  ⟨pe_imp pe_dnewT fun σ H Q ⟨S, env, lv, rel, fin⟩ p hp => fin _ _ (.new hp) (.dT (.inl (lv.new hp)) .nil)⟩
theorem tk0 : L2N.Takes X W0 := fun _ _ x => by
  obtain ⟨_, _, _, _, _, _, _, _, _, _, _, _, _, _, _, _, z⟩ := x
  exact z.elim
/-- a refusal's class, as it is raised -/
structure RsOk (K : PySem.W.Frag) (mg : Str → Option Value) (ca : XC → Addr) (c : XC) (x : Str) : Prop where
  ex : ∃ (B newId initId : String) (bm : List Value), ExcBaseFacts B newId initId bm ∧ PySem.W.excIn K (ca c) bm newId = true
  g : mg x = some (.ref (ca c))
  kp : PySem.W.keepIn K (.ref (ca c)) = true
  b : PySem.W.subIn K (.ref (ca c)) (.type "BaseException") = some true
  t : PySem.W.typeIn K (.ref (ca c)) = some (.type "type")
theorem is_rs {x msg : Str} {j : Nat} {p p2 pos2 : Pos} {cls : XC} (R : RsOk X.K X.mg ca cls x) (tk : L2N.Takes X W) (hc : X.calm = true := by rfl) (hg : Gl X x := by rfl) (hdb : (x == ("__debug__" : Str)) = false := by decide) :
    IS T ca X W (.Raise (some (.Call (.Name x p) [.Constant (.str msg) j p2] [] pos2)) none pos) (sRaise cls) :=
  let ⟨_, _, _, _, F, q⟩ := R.ex; is_raise F q R.g R.kp (raises_own R.b R.t) tk hc hg hdb
end
/-- a def as the top has written it -/
structure FunAt (K : PySem.W.Frag) (mg : Str → Option Value) (x : Str) (st : Stmt) (ps : List Str) : Prop where
  ex : ∃ f fd, L2.Fun K x x st f fd ∧ mg x = some (.ref f) ∧ Binds K fd ps []
theorem fn_at {T : Gam} {ca : XC → Addr} {P : Program} {w : World} {K : PySem.W.Frag} {mg : Str → Option Value} {base : Heap} {x : Str} {st : Stmt} {N ps : List Str} {k n : Nat} {m : Sv} (U : FunAt K mg x st ps) (hn : ps.length = n) (S : FnScope N ps (defScope st))
    (hbody : ∀ (f : Addr) (cdv : Value) (A : Around) (outer : List PySem.Env) (s : Shared) (H : Hp) (E : XK), Room k (A.deeper (envOfC x (defScope st) s.heap.objs.size f cdv)) →
      ISs T ca (cxOf (L2N.CX P w) P w K mg base N x (defScope st) f cdv A outer s H E) (fun c d _ H => E c d H) (defBody st) m) : FnD T ca P w K mg base (k + 1) x n fun ds => outR (m (startE N.length ds)) :=
  let ⟨f, _, F, hm, hb⟩ := U.ex; fnD_of F hm hb hn S fun cdv A outer s H E hr => hbody f cdv A outer s H E hr
theorem hu_at {k : Nat} {A : Around} (h : Room k A) : A.units + 64 < cLine := by have := h.un; omega
end IL
namespace IL
open PySem PySem.Spec PyProof.Rows L2
/-- as fn_ok, of a def whose code object is told -/
theorem fn_okL {T : Gam} {ca : XC → Addr} {P : Program} {w : World} {K : PySem.W.Frag} {mg : Str → Option Value} {base : Heap} {x : Str} {st : Stmt} {f : Addr} {N ps : List Str} {k : Nat} {m : Sv} {oc kV doc pm cdv ct : Value} {od an : Option Addr} {osl : Array (Option Value)}
    (lk : K.lookup f = some ⟨oc, od, .func (PySem.W.fnOf x x (defArgs st) (defBody st) (defScope st) .none kV doc pm an cdv ct), osl⟩) (hcd : PySem.W.codeIn K cdv x = true) (S : FnScope N ps (defScope st))
    (hbody : ∀ (A : Around) (outer : List PySem.Env) (s : Shared) (H : Hp) (E : XK), Room k (A.deeper (envOfC x (defScope st) s.heap.objs.size f cdv)) →
      ISs T ca (cxOf (L2N.CX P w) P w K mg base N x (defScope st) f cdv A outer s H E) (fun c d _ H => E c d H) (defBody st) m) : FnOk P w K mg base (L2N.CX P w) (k + 1) f (PySem.W.fnOf x x (defArgs st) (defBody st) (defScope st) .none kV doc pm an cdv ct) ps (SpD T ca K ps.length fun ds => outR (m (startE N.length ds))) := by
  refine fn_of lk hcd S (fun vs H Q E h => h.1) fun A outer s H vs Q E hr ⟨hl, S0, ds, lv, rr, fin⟩ => ⟨_, (hbody A outer s H E hr).ps, H, S0, [], startE N.length ds, start_rel lv rr, ?_⟩
  have fin : Fin T ca (Rv K S0) (fun c d _ H' => E c d H') [] H (outR (m (startE N.length ds))) Q := fin
  cases hm : m (startE N.length ds) with
  | nx e => rw [hm] at fin; exact fun os σ H' r => fin .non H' r.pe .non
  | ret d => rw [hm] at fin; exact fun v H' p r => fin v H' p r
  | exc c => rw [hm] at fin; exact fun σ H' p => fin H' p
  | brk e => rw [hm] at fin; exact fin.elim
  | ct e => rw [hm] at fin; exact fin.elim
  | stuck => rw [hm] at fin; exact fin.elim
end IL
namespace IL
open PySem PySem.Spec PyProof.Rows L2
/-! ### reading mirrors -/
abbrev Has (env : SEnv) (i : Nat) (e : Ent) : Prop := env[i]? = some (some e)
theorem Has.lt {env : SEnv} {i : Nat} {e : Ent} (h : Has env i e) : i < env.length := (List.getElem?_eq_some_iff.mp h).1
theorem has_set {env : SEnv} {i : Nat} {e : Ent} (h : i < env.length) : Has (env.set i (some e)) i e := List.getElem?_set_self h
theorem Has.ne {env : SEnv} {i j : Nat} {e : Ent} {x : Option Ent} (h : Has env j e) (n : i ≠ j) : Has (env.set i x) j e := (List.getElem?_set_ne n).trans h
theorem hid_of {env : SEnv} {i : Nat} {d : D} (h : Has env i (.val d)) : (hid env)[i]? = some (some d) := by unfold hid; rw [List.getElem?_map, h] <;> rfl
theorem vis_of {env : SEnv} {i : Nat} {d : D} (h : Has env i (.val d)) : (vis env)[i]? = some (some d) := by unfold vis; rw [List.getElem?_map, h] <;> rfl
theorem vis_own {env : SEnv} {i : Nat} {d : D} (h : Has env i (.own d)) : (vis env)[i]? = some (some (strip d)) := by unfold vis; rw [List.getElem?_map, h] <;> rfl
theorem var_of {E : Env} {i : Nat} {d : D} (h : E[i]? = some (some d)) : mVar i E = .ok d := by unfold mVar; rw [h]
theorem seq_nx {a b : Sv} {env e : SEnv} (h : a env = .nx e) : mSeq a b env = b e := by unfold mSeq; rw [h]
theorem seq_ret {a b : Sv} {env : SEnv} {d : D} (h : a env = .ret d) : mSeq a b env = .ret d := by unfold mSeq; rw [h]
theorem seq_exc {a b : Sv} {env : SEnv} {c : XC} (h : a env = .exc c) : mSeq a b env = .exc c := by unfold mSeq; rw [h]
theorem asg_of {i : Nat} {m : Ev} {env : SEnv} {d : D} (h : m (hid env) = .ok d) : sAsg i m env = .nx (env.set i (some (.val d))) := by unfold sAsg; rw [h] <;> rfl
theorem ownL_of {i : Nat} {m : Env → Res (List D)} {env : SEnv} {ds : List D} (h : m (hid env) = .ok ds) (hb : big ds.length = true) : sOwnL i m env = .nx (env.set i (some (.own (.list ds)))) := by unfold sOwnL; rw [h]; exact if_pos hb
theorem app_of {i : Nat} {m : Ev} {env : SEnv} {ds : List D} {d : D} (ho : Has env i (.own (.list ds))) (h : m (hid env) = .ok d) (hb : big ds.length = true) : sApp i m env = .nx (env.set i (some (.own (.list (ds ++ [d]))))) := by
  unfold sApp
  rw [ho]
  dsimp only
  rw [h]
  exact if_pos hb
theorem if_of {t : Env → Res Bool} {a b : Sv} {env : SEnv} {x : Bool} (h : t (vis env) = .ok x) : sIf t a b env = if x = true then a env else b env := by unfold sIf; rw [h] <;> rfl
theorem ret_of {m : Ev} {env : SEnv} {d : D} (h : m (vis env) = .ok d) : sRet m env = .ret d := by unfold sRet; rw [h] <;> rfl
theorem told_exc {cs : List XC} {nm : XC → Str} {m : Ev} {env : Env} {c : XC} (h : m env = .exc c) (hc : c ∈ cs) : mTold cs nm m env = .ok (refused nm c) := by unfold mTold; rw [h]; exact if_pos hc
theorem told_ok {cs : List XC} {nm : XC → Str} {m : Ev} {env : Env} {d : D} (h : m env = .ok d) : mTold cs nm m env = .ok d := by unfold mTold; rw [h]
theorem call1 {g : List D → Res D} {a : Ev} {E : Env} {d : D} (h : a E = .ok d) : mCallN 1 g (mCons a mNil) E = g [d] := by unfold mCallN mCons mNil; rw [h] <;> rfl
theorem call2 {g : List D → Res D} {a b : Ev} {E : Env} {d e : D} (h : a E = .ok d) (h' : b E = .ok e) : mCallN 2 g (mCons a (mCons b mNil)) E = g [d, e] := by
  unfold mCallN mCons mNil
  rw [h]
  dsimp only [Res.bind]
  rw [h'] <;> rfl
theorem cons_of {a : Ev} {r : Env → Res (List D)} {E : Env} {d : D} {ds : List D} (h : a E = .ok d) (h' : r E = .ok ds) : mCons a r E = .ok (d :: ds) := by
  unfold mCons
  rw [h]
  dsimp only [Res.bind]
  rw [h'] <;> rfl
theorem m2_of {g : D → D → Option D} {a b : Ev} {E : Env} {d e z : D} (h : a E = .ok d) (h' : b E = .ok e) (hz : g d e = some z) : m2 g a b E = .ok z := by
  unfold m2
  rw [h]
  dsimp only [Res.bind]
  rw [h']
  dsimp only
  rw [hz] <;> rfl
theorem mT_of {a : Ev} {E : Env} {b : Bool} (h : a E = .ok (.bool b)) : mT a E = .ok b := by unfold mT; rw [h] <;> rfl
theorem mB_of {g : List D → Option D} {a : Env → Res (List D)} {E : Env} {ds : List D} {z : D} (h : a E = .ok ds) (hz : g ds = some z) : mB g a E = .ok z := by
  unfold mB
  rw [h]
  dsimp only [Res.bind]
  rw [hz] <;> rfl
theorem for_of {m : Env → Res (List D)} {i : Nat} {b : Sv} {env : SEnv} {ds : List D} (h : m (hid env) = .ok ds) : sFor m i b env = forLoop i b ds env := by unfold sFor; rw [h] <;> rfl
/-- a loop that keeps what it keeps and never leaves -/
theorem loop_inv {i : Nat} {b : Sv} {I : SEnv → Prop} : ∀ {ds : List D}, (∀ d ∈ ds, ∀ env, I env → ∃ e, b (env.set i (some (.val d))) = .nx e ∧ I e) → ∀ env, I env → ∃ e, forLoop i b ds env = .nx e ∧ I e
  | [], _, env, h => ⟨env, rfl, h⟩
  | d :: r, st, env, h => by
    obtain ⟨e, h1, h2⟩ := st d List.mem_cons_self env h
    obtain ⟨e', h3, h4⟩ := loop_inv (ds := r) (fun d hd => st d (List.mem_cons_of_mem _ hd)) e h2
    exact ⟨e', by unfold forLoop; rw [h1]; exact h3, h4⟩
def isX (c : XC) (r : Res D) : Bool := match r with
  | .exc c' => decide (c = c')
  | _ => false
theorem isX_of {c : XC} {r : Res D} (h : isX c r = true) : r = .exc c := by
  unfold isX at h
  split at h
  · rw [of_decide_eq_true h]
  · cases h
theorem mulOk_r {i j : Int} (h1 : -(2 ^ 64) < j) (h2 : j < 2 ^ 64) : mulOk i j = true := by
  unfold mulOk
  rw [decide_eq_true h1, decide_eq_true h2]
  simp
theorem mulOk_l {i j : Int} (h1 : -(2 ^ 64) < i) (h2 : i < 2 ^ 64) : mulOk i j = true := by
  unfold mulOk
  rw [decide_eq_true h1, decide_eq_true h2]
  simp
theorem mulOk_big {i j : Int} (h1 : i.natAbs < 2 ^ 400) (h2 : j.natAbs < 2 ^ 400) : mulOk i j = true := by
  unfold mulOk
  rw [decide_eq_true h1, decide_eq_true h2]
  simp
theorem gMul_of {i j : Int} (h : mulOk i j = true) : gMul (.int i) (.int j) = some (.int (i * j)) := if_pos h
theorem gMod_of {i j : Int} (h : 0 < j) : gMod (.int i) (.int j) = some (.int (i % j)) := if_pos (decide_eq_true h)
theorem gDiv_of {i j : Int} (h : 0 < j) (h2 : j.natAbs < 2 ^ 400) : gDiv (.int i) (.int j) = some (.int (i / j)) := if_pos (by rw [decide_eq_true h, decide_eq_true h2]; rfl)
end IL
namespace IL
open PySem PySem.Spec PyProof.Rows L2
/-! ### a def under another name; a def of which nothing is said -/
structure FunAs (K : PySem.W.Frag) (mg : Str → Option Value) (x q : Str) (st : Stmt) (ps : List Str) : Prop where
  ex : ∃ f fd, L2.Fun K q q st f fd ∧ mg x = some (.ref f) ∧ Binds K fd ps []
section
variable {T : Gam} {ca : XC → Addr} {P : Program} {w : World} {K : PySem.W.Frag} {mg : Str → Option Value} {base : Heap} {x q : Str} {st : Stmt} {N ps : List Str} {k n : Nat} {m : Sv}
theorem FunAt.as (U : FunAt K mg x st ps) : FunAs K mg x x st ps := ⟨U.ex⟩
theorem fn_as (U : FunAs K mg x q st ps) (hn : ps.length = n) (S : FnScope N ps (defScope st))
    (hbody : ∀ (f : Addr) (cdv : Value) (A : Around) (outer : List PySem.Env) (s : Shared) (H : Hp) (E : XK), Room k (A.deeper (envOfC q (defScope st) s.heap.objs.size f cdv)) →
      ISs T ca (cxOf (L2N.CX P w) P w K mg base N q (defScope st) f cdv A outer s H E) (fun c d _ H => E c d H) (defBody st) m) : FnD T ca P w K mg base (k + 1) x n fun ds => outR (m (startE N.length ds)) := by
  obtain ⟨f, fd, F, hm, hb⟩ := U.ex
  subst hn
  exact ⟨f, fd, ps, rfl, fn_ok F S fun cdv A outer s H E hr => hbody f cdv A outer s H E hr, hm, F.kp, hb⟩
theorem fnD_stuck (U : FunAs K mg x q st ps) (hn : ps.length = n) : FnD T ca P w K mg base k x n fun _ => .stuck := by
  obtain ⟨f, fd, F, hm, hb⟩ := U.ex
  subst hn
  refine ⟨f, fd, ps, rfl, ⟨fun vs H Q E h => h.1, fun A outer s H args us vs Q E hr e0 b r h => ?_⟩, hm, F.kp, hb⟩
  obtain ⟨_, S, ds, lv, rr, fin⟩ := h
  exact (show False from fin).elim
end
/-! ### written tuples of texts -/
structure KStrs (K : PySem.W.Frag) (mg : Str → Option Value) (x : Str) (zs : List Str) : Prop where
  ex : ∃ (p : Addr) (o : Obj) (its : Array Value) (n : Nat), mg x = some (.ref p) ∧ K.lookup p = some o ∧ o.cls = .type "tuple" ∧ o.data = .seq its n ∧ its.size ≤ sizeLine ∧ Vals (zs.map V.str) its.toList
def gInT (zs : List Str) (d : D) : Option D := (flatD d).map fun v => .bool (inV v (zs.map V.str))
section
variable {T : Gam} {ca : XC → Addr} {X : Cx} {W : WX} {e a b : Expr} {es : List Expr} {pos p2 pos' : Pos} {ma mb me : Ev} {st : Stmt}
theorem flat_strs (zs : List Str) : (zs.map V.str).all flatV = true := List.all_eq_true.mpr fun v hv => let ⟨_, _, e⟩ := List.mem_map.mp hv; by rw [← e] <;> rfl
theorem inT_pre {x : Str} {zs : List Str} (D : KStrs X.K X.mg x zs) : ∃ p, X.mg x = some (.ref p) ∧ ∀ (S : List Addr) (env : IL.Env) (σ : L2.St) (H : Hp) (Q : VK), Live T S H → RelE X.K (hide S H) env σ → Fin T ca (Rv X.K S) W σ H (m1 (gInT zs) ma env) Q →
    tOp (rIn X.K false) (tI T ca X.K W ma) (tC (.ref p)) σ H Q := by
  obtain ⟨p, o, its, n, hm, h1, h2, h3, h4, h5⟩ := D.ex
  refine ⟨p, hm, fun S env σ H Q lv rel fin => ⟨S, env, lv, rel, Fin.bind (R' := Rv X.K S) fin fun d v H1 _ p1 r1 f1 => ?_⟩⟩
  obtain ⟨z, hz, w⟩ := f1.some
  obtain ⟨y, hy, rfl⟩ := Option.map_eq_some_iff.mp hz
  obtain ⟨rfl, f2⟩ := flat_rp r1 hy
  exact ⟨p, zs.map V.str, rfl, .inr (.inr ⟨o, its, n, h1, h2, h3, h4, h5⟩), f2, flat_strs zs, Wants.bl (T := T) (K := X.K) (S := S) w⟩
theorem ie_inT {x : Str} {zs : List Str} (D : KStrs X.K X.mg x zs) (ha : IE T ca X W a ma) (hg : Gl X x := by rfl) (hd : (x == ("__debug__" : Str)) = false := by decide) : IE T ca X W (.Compare a [.In] [.Name x p2] pos) (m1 (gInT zs) ma) := by
  obtain ⟨p, hm, h⟩ := inT_pre (T := T) (ca := ca) (W := W) (ma := ma) D
  exact ⟨pe_imp (pe_cmpR op_in_seq ha.pe (pe_glob (v := .ref p) hg hm rfl hd) (by rfl)) fun σ H Q ⟨S, env, lv, rel, fin⟩ => h S env σ H Q lv rel fin⟩
theorem it_inT {x : Str} {zs : List Str} (D : KStrs X.K X.mg x zs) (ha : IE T ca X W a ma) (hg : Gl X x := by rfl) (hd : (x == ("__debug__" : Str)) = false := by decide) : IT T ca X W (.Compare a [.In] [.Name x p2] pos) (mT (m1 (gInT zs) ma)) := by
  obtain ⟨p, hm, h⟩ := inT_pre (T := T) (ca := ca) (W := W) (ma := ma) D
  exact ⟨pt_imp (pt_cmpR op_in_seq ha.pe (pe_glob (v := .ref p) hg hm rfl hd) (by rfl)) fun σ H Q ⟨S, env, lv, rel, fin⟩ => h S env σ H _ lv rel (fin_T (X := X) (S := S) fin)⟩
/-! ### dicts with texts as keys that a name builds up -/
def sOwnDK (i : Nat) : Sv := fun env => .nx (env.set i (some (.own (.dict [mk0]))))
theorem is_ownDK {i : Nat} {x : Str} {lp : Pos} (hN : X.N.Nodup) (hi : X.N[i]? = some x := by rfl) (hx : Loc X.env.scope x := by first | exact Or.inl rfl | exact Or.inr rfl) (hs : swapsWith (.Dict [] [] lp) (some (.Name x pos')) pos.line X.env = pure false := by rfl) (hf : X.fn x = true ∨ X.env.scope.names.lookup x = some .local := by first | exact .inl rfl | exact .inr rfl) :
    IS T ca X W (.Assign [.Name x pos'] (.Dict [] [] lp) pos) (sOwnDK i) :=
  ⟨ps_imp (ps_set hN hi hx pe_dnewK hs hf) fun D σ H ⟨H0, S0, os, env, rel, fin⟩ q hq => fin _ _ _ (rel.newOwn hq rfl (.dK upd_same .nil) i)⟩
def keyS : D → Option Key
  | .str x => some (.inr x)
  | _ => none
def putS (es : List (D × D)) (k : Key) (d : D) : List (D × D) := if (es.any fun e => decide (keyS e.1 = some k)) = true then es.map (fun e => if keyS e.1 = some k then (e.1, d) else e) else es ++ [(kD k, d)]
def strKeys (es : List (D × D)) : Bool := es.all fun e => (keyS e.1).isSome
def sPutS (i : Nat) (mv mk : Ev) : Sv := fun env => match env[i]? with
  | some (some (.own (.dict ((.none, .none) :: es)))) => liftR (mv (hid env)) fun d => liftR (mk (hid env)) fun k => match keyS k with
    | some kk => if strKeys es && big es.length = true then .nx (env.set i (some (.own (.dict (mk0 :: putS es kk d))))) else .stuck
    | none => .stuck
  | _ => .stuck
theorem putS_rp {K : PySem.W.Frag} {G : Hp} {kvs : List (Key × V)} {es : List (D × D)} {k : Key} {v : V} {d : D} (r : RpK K G kvs es) (hs : strKeys es = true) (hk : (keyS (kD k)) = some k) (rv : Rp K G v d) : RpK K G (putK kvs k v) (putS es k d) := by
  have any_eq : ∀ {kvs : List (Key × V)} {es : List (D × D)}, RpK K G kvs es → strKeys es = true → (kvs.any fun kv => decide (kv.1 = k)) = (es.any fun e => decide (keyS e.1 = some k)) := by
    intro kvs es r
    induction kvs generalizing es with
    | nil => cases r; intro _; rfl
    | cons p kvs ih =>
      cases r with
      | @cons k' _ _ _ _ h r =>
        intro hs
        rw [strKeys, List.all_cons, Bool.and_eq_true] at hs
        rw [List.any_cons, List.any_cons, ih r hs.2]
        cases k' with
        | inl i => cases hs.1
        | inr x => simp [keyS, kD]
  have map_eq : ∀ {kvs : List (Key × V)} {es : List (D × D)}, RpK K G kvs es → strKeys es = true → RpK K G (kvs.map fun kv => if kv.1 = k then (kv.1, v) else kv) (es.map fun e => if keyS e.1 = some k then (e.1, d) else e) := by
    intro kvs es r
    induction kvs generalizing es with
    | nil => cases r; intro _; exact .nil
    | cons p kvs ih =>
      cases r with
      | @cons k' v' _ d' es' h r =>
        intro hs
        rw [strKeys, List.all_cons, Bool.and_eq_true] at hs
        rw [List.map_cons, List.map_cons]
        cases k' with
        | inl i => cases hs.1
        | inr x =>
          by_cases e : (Sum.inr x : Key) = k
          · have e2 : keyS (kD (Sum.inr x)) = some k := by rw [← e]; rfl
            rw [if_pos e, if_pos e2]
            exact .cons rv (ih r hs.2)
          · have e2 : ¬ keyS (kD (Sum.inr x)) = some k := fun z => e (Option.some.inj z)
            rw [if_neg e, if_neg e2]
            exact .cons h (ih r hs.2)
  have app : ∀ {kvs : List (Key × V)} {es : List (D × D)}, RpK K G kvs es → RpK K G (kvs ++ [(k, v)]) (es ++ [(kD k, d)]) := by
    intro kvs es r
    induction kvs generalizing es with
    | nil => cases r; exact .cons rv .nil
    | cons p kvs ih =>
      cases r with
      | cons h r => exact .cons h (ih r)
  unfold putK putS
  rw [any_eq r hs]
  split
  · exact map_eq r hs
  · exact app r
theorem keyS_rp {K : PySem.W.Frag} {G : Hp} {v : V} {d : D} {k : Key} (r : Rp K G v d) (h : keyS d = some k) : v = kV k ∧ keyS (kD k) = some k := by
  cases d with
  | str x =>
    cases h
    exact ⟨rp_str r, rfl⟩
  | _ => cases h
/-- found[k] = v -/
theorem is_putS {i : Nat} {x : Str} {px : Pos} {k v : Expr} {mk mv : Ev} (hu : X.A.units + 64 < cLine) (hk : IE T ca X W k mk) (hv : IE T ca X W v mv) (hi : X.N[i]? = some x := by rfl) (hvis : Vis X.env.scope x := by first | exact Or.inl rfl | exact Or.inr (Or.inl rfl) | exact Or.inr (Or.inr rfl)) (hd : (x == ("__debug__" : Str)) = false := by decide) (hcd : (x == ("__classdict__" : Str)) = false := by decide)
    (hs : swapsWith v (some (.Subscript (.Name x px) k pos')) pos.line X.env = pure false := by rfl) : IS T ca X W (.Assign [.Subscript (.Name x px) k pos'] v pos) (sPutS i mv mk) :=
  ⟨ps_imp (ps_dput (by omega) (pe_var hi hvis hd hcd) hk.pe hv.pe hs) fun D σ H ⟨H0, S0, os, env, rel, fin⟩ => by
    unfold sPutS at fin
    split at fin
    · rename_i es he
      refine ⟨os ++ S0, hid env, rel.lv, rel.hidE, fin_hid (R := Rv X.K (os ++ S0)) rel fin fun d v H1 p1 rel1 rv f => ?_⟩
      obtain ⟨p, h1, h2, _⟩ := rel1.own i _ he
      refine ⟨.ref p, h1, os ++ S0, hid env, rel1.lv, rel1.hidE, fin_hid (R := Rv X.K (os ++ S0)) rel1 f fun kd y H2 p2 rel2 ry f2 => ?_⟩
      split at f2
      · rename_i kk hkk
        split at f2
        · rename_i hb
          rw [Bool.and_eq_true] at hb
          obtain ⟨p', h1', h2', h3'⟩ := rel2.own i _ he
          rw [h1] at h1'
          cases h1'
          obtain ⟨rfl, hkk2⟩ := keyS_rp ry hkk
          cases h3' with
          | dT e r => cases r
          | @dK kvs _ e r =>
            have hl := r.len
            have hsz : kvs.length < sizeLine := by
              have := of_decide_eq_true (of_decide_eq_true hb.2)
              have : (1000000 : Nat) < sizeLine := by decide
              omega
            exact ⟨p, _, rfl, DPut.k e hsz, f2 _ _ _ (rel2.putOwn he h1 h2' rfl (.dK upd_same (putS_rp r hb.1 hkk2 (Rp.le p2.rd rv))))⟩
        · exact f2.elim
      · exact f2.elim
    · exact fin.elim⟩
/-- an expression as a statement, what is owned seen -/
def sExprV (m : Ev) : Sv := fun env => liftR (m (vis env)) fun _ => .nx env
theorem is_exprV (h : IE T ca X W e me) (hs : swapsWith e none pos.line X.env = pure false := by rfl) : IS T ca X W (.Expr e pos) (sExprV me) :=
  ⟨ps_imp (ps_expr h.pe hs) fun D σ H ⟨H0, S0, os, env, rel, fin⟩ => ⟨S0, vis env, rel.liveS, rel.visE, fin_hid (R := Rv X.K S0) rel fin fun d v H1 p rel1 rv f => f os σ H1 rel1⟩⟩
/-! ### sorted(d), d's keys texts -/
def strsOf : List (D × D) → Option (List Str)
  | [] => some []
  | (.str x, _) :: r => (strsOf r).map (x :: ·)
  | _ => none
/-- of at most two -/
def sort2 : List Str → Option (List Str)
  | [] => some []
  | [a] => some [a]
  | [a, b] => if sortedS [a, b] && !sortedS [b, a] then some [a, b] else if sortedS [b, a] && !sortedS [a, b] then some [b, a] else none
  | _ => none
theorem perm2 {a b : Str} {ys : List Str} (h : ys.Perm [a, b]) : ys = [a, b] ∨ ys = [b, a] := by
  have hl := h.length_eq
  match ys, hl with
  | [x, y], _ =>
    have hx : x ∈ [a, b] := h.mem_iff.mp List.mem_cons_self
    rcases List.mem_cons.mp hx with rfl | hx
    · have := (List.perm_cons x).mp h
      rw [List.perm_singleton.mp this]
      exact .inl rfl
    · cases List.mem_singleton.mp hx
      have := (List.perm_cons _).mp (h.trans (List.Perm.swap _ _ []))
      rw [List.perm_singleton.mp this]
      exact .inr rfl
theorem sort2_is {ks zs ys : List Str} (h : sort2 ks = some zs) (hp : ys.Perm ks) (hs : sortedS ys = true) : ys = zs := by
  match ks, h with
  | [], h => cases h; exact hp.eq_nil
  | [a], h => cases h; exact List.perm_singleton.mp hp
  | [a, b], h =>
    have h : (if sortedS [a, b] && !sortedS [b, a] then some [a, b] else if sortedS [b, a] && !sortedS [a, b] then some [b, a] else none) = some zs := h
    rcases perm2 hp with rfl | rfl
    · rw [hs] at h
      cases hb : sortedS [b, a] <;> rw [hb] at h <;> cases h
      rfl
    · rw [hs] at h
      cases hb : sortedS [a, b] <;> rw [hb] at h <;> cases h
      rfl
def gSortS : List D → Option D
  | [.dict es] => (strsOf es).bind fun ks => (sort2 ks).map fun zs => .list (zs.map .str)
  | _ => none
theorem strs_rp {K : PySem.W.Frag} {G : Hp} : ∀ {kvs : List (Key × V)} {es : List (D × D)} {ks : List Str}, RpK K G kvs es → strsOf es = some ks → kvs.map (·.1) = ks.map Sum.inr
  | _, _, _, .nil, e => by cases e; rfl
  | _, _, _, .cons (k := k) h r, e => by
    cases k with
    | inl i => cases e
    | inr x =>
      obtain ⟨ks, h1, rfl⟩ := Option.map_eq_some_iff.mp e
      rw [List.map_cons, List.map_cons, strs_rp r h1]
theorem strAll_rp {K : PySem.W.Frag} {G : Hp} : ∀ zs : List Str, RpAll K G (zs.map V.str) (zs.map PyData.str)
  | [] => .nil
  | z :: zs => .cons (.str z) (strAll_rp zs)
/-- return sorted(x), x a dict with texts as keys that the name builds up -/
def sRetSort (i : Nat) : Sv := fun env => match env[i]? with
  | some (some (.own (.dict ((.none, .none) :: es)))) => match gSortS [.dict es] with
    | some d => .ret d
    | none => .stuck
  | _ => .stuck
theorem is_retSort {i : Nat} {x : Str} {p px : Pos} (hm : X.mg "sorted" = none) (hc : X.calm = true := by rfl) (hg : Gl X "sorted" := by rfl) (hi : X.N[i]? = some x := by rfl) (hvis : Vis X.env.scope x := by first | exact Or.inl rfl | exact Or.inr (Or.inl rfl) | exact Or.inr (Or.inr rfl)) (hd : (x == ("__debug__" : Str)) = false := by decide) (hcd : (x == ("__classdict__" : Str)) = false := by decide)
    (he : starEach [.Name x px] X.env = (false, eval (.Name x px) X.env) :: starEach [] X.env := by rfl) (hpl : (backTo pos (starEach [] X.env)).any (·.1) = false := by rfl) :
    IS T ca X W (.Return (some (.Call (.Name "sorted" p) [.Name x px] [] pos)) pos') (sRetSort i) :=
  ⟨ps_imp (ps_ret (pe_callB (call_sortedD hc) hg hm (by decide +kernel) (pa_cons (pe_var hi hvis hd hcd) pa_nil he) (by decide) (by decide) he hpl)) fun D σ H ⟨H0, S0, os, env, rel, fin⟩ => by
    unfold sRetSort at fin
    split at fin
    · rename_i es he
      split at fin
      · rename_i z hz
        obtain ⟨q, h1, h2, h3⟩ := rel.own i _ he
        obtain ⟨ks, e1, e2⟩ := Option.bind_eq_some_iff.mp hz
        obtain ⟨zs, e3, rfl⟩ := Option.map_eq_some_iff.mp e2
        cases h3 with
        | dT e r => cases r
        | @dK kvs _ e r =>
          have hlen : ks.length < 64 := by
            match ks, e3 with
            | [], _ => decide
            | [_], _ => show 1 < 64; decide
            | [_, _], _ => show 2 < 64; decide
          refine ⟨.ref q, h1, q, kvs, ks, rfl, .inl e, strs_rp r e1, hlen, fun ys l hp hs hn => ?_⟩
          rw [sort2_is e3 hp hs]
          have hl : l ∉ S0 := (rel.lv.no hn) ∘ List.mem_append_right _
          exact fin _ _ (rel.pe.trans (.new hn)) (.lst (.inl (.inl ((hide_in hl).trans upd_same))) (strAll_rp zs))
      · exact fin.elim
    · exact fin.elim⟩
end
end IL
namespace IL
open PySem PySem.Spec PyProof.Rows L2
/-! ### what is read with the owned things in sight, and holds none of them -/
mutual
def flatT : D → Bool
  | .none => true
  | .bool _ => true
  | .int _ => true
  | .str _ => true
  | .tuple ds => flatTs ds
  | _ => false
def flatTs : List D → Bool
  | [] => true
  | d :: r => flatT d && flatTs r
end
section
variable {T : Gam} {K : PySem.W.Frag} {S0 os : List Addr} {H : Hp}
mutual
theorem flatT_rp (lv : LiveO (os ++ S0) H) : ∀ {v : V} {d : D}, Rp K (hide S0 H) v d → flatT d = true → Rp K (hide (os ++ S0) H) v d
  | _, _, .non, _ => .non
  | _, _, .bl b, _ => .bl b
  | _, _, .int i, _ => .int i
  | _, _, .str x, _ => .str x
  | _, _, .tup h r, f => .tup ((hide_in (lv.tup (hide_some h).2)).trans (hide_some h).2) (flatTs_rp lv r f)
  | _, _, .lst _ _, f => nomatch (show false = true from f)
  | _, _, .dT _ _, f => nomatch (show false = true from f)
  | _, _, .dK _ _, f => nomatch (show false = true from f)
  | _, _, .ob _ _ _ _, f => nomatch (show false = true from f)
theorem flatTs_rp (lv : LiveO (os ++ S0) H) : ∀ {vs : List V} {ds : List D}, RpAll K (hide S0 H) vs ds → flatTs ds = true → RpAll K (hide (os ++ S0) H) vs ds
  | _, _, .nil, _ => .nil
  | _, _, .cons h r, f => .cons (flatT_rp lv h (Bool.and_eq_true_iff.mp f).1) (flatTs_rp lv r (Bool.and_eq_true_iff.mp f).2)
end
end
def sOwnLV (i : Nat) (m : Env → Res (List D)) : Sv := fun env => liftR (m (vis env)) fun ds => if flatTs ds && big ds.length = true then .nx (env.set i (some (.own (.list ds)))) else .stuck
def sAppV (i : Nat) (m : Ev) : Sv := fun env => match env[i]? with
  | some (some (.own (.list ds))) => liftR (m (vis env)) fun d => if flatT d && big ds.length = true then .nx (env.set i (some (.own (.list (ds ++ [d]))))) else .stuck
  | _ => .stuck
section
variable {T : Gam} {ca : XC → Addr} {X : Cx} {W : WX} {e : Expr} {es : List Expr} {pos pos' : Pos} {me : Ev} {ms : Env → Res (List D)}
theorem is_ownLV {i : Nat} {x : Str} {lp : Pos} (hN : X.N.Nodup) (h : IA T ca X W es ms) (hi : X.N[i]? = some x := by rfl) (hx : Loc X.env.scope x := by first | exact Or.inl rfl | exact Or.inr rfl) (hs : swapsWith (.List es lp) (some (.Name x pos')) pos.line X.env = pure false := by rfl) (hf : X.fn x = true ∨ X.env.scope.names.lookup x = some .local := by first | exact .inl rfl | exact .inr rfl) :
    IS T ca X W (.Assign [.Name x pos'] (.List es lp) pos) (sOwnLV i ms) :=
  ⟨ps_imp (ps_set hN hi hx (pe_lst h.pa) hs hf) fun D σ H ⟨H0, S0, os, env, rel, fin⟩ => ⟨S0, vis env, rel.liveS, rel.visE, fin_hid (R := Ra X.K S0) rel fin fun ds vs H1 p rel1 rv f => by
    split at f
    · rename_i hb
      rw [Bool.and_eq_true] at hb
      have rv' := flatTs_rp rel1.lv.own rv hb.1
      exact ⟨by rw [RpAll.length rv']; exact big_ok (of_decide_eq_true hb.2), fun q hq => f _ _ _ (rel1.newOwn hq rfl (.lst upd_same rv') i)⟩
    · exact f.elim⟩⟩
theorem is_appV {i : Nat} {x : Str} {px apos cpos : Pos} (h : IE T ca X W e me) (hi : X.N[i]? = some x := by rfl) (hv : Vis X.env.scope x := by first | exact Or.inl rfl | exact Or.inr (Or.inl rfl) | exact Or.inr (Or.inr rfl)) (hd : (x == ("__debug__" : Str)) = false := by decide) (hcd : (x == ("__classdict__" : Str)) = false := by decide)
    (hst : starEach [e] X.env = (false, eval e X.env) :: starEach [] X.env := by rfl) (hpl : (backTo cpos (starEach [] X.env)).any (·.1) = false := by rfl) (hbase : attributeBase (.Name x px) "append" X.env (eval (.Name x px) X.env) = eval (.Name x px) X.env := by rfl) (hline : (apos.endLine == cpos.line) = true := by rfl) (hs : swapsWith (.Call (.Attribute (.Name x px) "append" apos) [e] [] cpos) none pos.line X.env = pure false := by rfl) :
    IS T ca X W (.Expr (.Call (.Attribute (.Name x px) "append" apos) [e] [] cpos) pos) (sAppV i me) :=
  ⟨ps_imp (ps_expr (pe_bm PySem.F.plainAttrs_list PySem.F.slot_list_append PySem.F.type_list_append mt_append (pe_var hi hv hd hcd) (pa_cons h.pe pa_nil hst) (hbase := hbase) (hline := hline) (hs := hst) (hfew := by rw [hst]; rfl)) hs) fun D σ H ⟨H0, S0, os, env, rel, fin⟩ => by
    unfold sAppV at fin
    split at fin
    · rename_i ds he
      obtain ⟨p, h1, h2, h3⟩ := rel.own i _ he
      cases h3 with
      | lst e r =>
        refine ⟨.ref p, h1, .inl ⟨rfl, _, .inl (.inl e)⟩, S0, vis env, rel.liveS, rel.visE, fin_hid (R := Rv X.K S0) rel fin fun d v H1 p1 rel1 rv f => ?_⟩
        split at f
        · rename_i hb
          rw [Bool.and_eq_true] at hb
          obtain ⟨q, g1, g2, g3⟩ := rel1.own i _ he
          rw [h1] at g1
          cases g1
          cases g3 with
          | @lst vs' _ g4 g5 =>
            refine ⟨p, vs', v, rfl, rfl, g4, ?_, f _ _ _ (rel1.putOwn he h1 g2 rfl (.lst upd_same (g5.app (.cons (flatT_rp rel1.lv.own rv hb.1) .nil))))⟩
            have := g5.length
            have := of_decide_eq_true (of_decide_eq_true hb.2)
            have : (1000000 : Nat) < sizeLine := by decide
            omega
        · exact f.elim
    · exact fin.elim⟩
end
end IL
namespace IL
open PySem PySem.Spec PyProof.Rows L2
/-! ### methods of the class Looks, called on the datum of an instance -/
structure LooksC (K : PySem.W.Frag) (C : Addr) : Prop where
  g : PySem.W.nsIn K mainGlobals "Looks" = some (some (.ref C))
  cls : Cls K C
  noT : NoAttr K C "terms"
structure FnM (T : Gam) (ca : XC → Addr) (P : Program) (w : World) (K : PySem.W.Frag) (mg : Str → Option Value) (base : Heap) (k : Nat) (C : Addr) (m : Str) (n : Nat) (g : List D → Res D) : Prop where
  ex : ∃ (f : Addr) (fd : FuncData) (ps : List Str), ps.length = n ∧ FnOk P w K mg base (L2N.CX P w) k f fd ps (SpD T ca K n g) ∧ Meth K C m f ∧ Binds K fd ps []
def mMeth (n : Nat) (g : List D → Res D) (o : Ev) (a : Env → Res (List D)) : Ev := fun env => (o env).bind fun d => if isOb d = true then (a env).bind fun ds => if ds.length + 1 = n then g (d :: ds) else .stuck else .stuck
section
variable {T : Gam} {ca : XC → Addr} {X : Cx} {W : WX} {o e a b : Expr} {es : List Expr} {pos apos p2 : Pos} {mo ma : Ev} {ms : Env → Res (List D)}
/-- where the instance stands -/
theorem ob_rp {K : PySem.W.Frag} {G : Hp} {v : V} {d : D} (h : Rp K G v d) (hd : isOb d = true) : ∃ (x t kn dn : Addr) (kvs : List (Key × V)) (es : List (D × D)) (fresh : Bool), v = .ref x ∧ d = obD es fresh ∧ ObAt K G x t kn dn ∧ Rd G t (.dK kvs) ∧ RpK K G kvs es := by
  cases h with
  | ob h ht r hf => exact ⟨_, _, _, _, _, _, _, rfl, rfl, h, ht, r⟩
  | dT h r =>
    cases r with
    | nil => cases hd
    | cons h r => cases hd
  | dK h r =>
    cases r with
    | nil => cases hd
    | @cons k _ _ _ _ h r => cases k <;> cases hd
  | _ => cases hd
theorem ie_meth {C : Addr} {j k n : Nat} {m : Str} {g : List D → Res D} {pl : Sem Bool} (L : LooksC X.K C) (F : FnM T ca X.prog X.w X.K X.mg X.base k C m n g) (hr : Room j X.A) (hk : k ≤ j) (tk : L2N.Takes X W) (ho : IE T ca X W o mo) (ha : IA T ca X W (e :: es) ms)
    (hm : ([("now", V.non), ("terms", V.non), ("known", V.non), ("done", V.non)] : List (Str × V)).lookup m = none := by rfl)
    (hst : starEach (e :: es) X.env = (false, eval e X.env) :: starEach es X.env := by rfl) (hpl : (backTo pos (starEach es X.env)).any (·.1) = false := by rfl)
    (ht : eval (.Call (.Attribute o m apos) (e :: es) [] pos) X.env = (do
      let ov ← eval o X.env
      standAt apos.atName
      let (f, first) ← holding [ov] (getMethod ov m pl)
      callWith pos f first (backTo pos (starEach (e :: es) X.env)) (backToKw pos (keywordEach [] X.env))) := by rfl) :
    IE T ca X W (.Call (.Attribute o m apos) (e :: es) [] pos) (mMeth n g mo ms) := by
  obtain ⟨f, fd, ps, hn, F', M, hb⟩ := F.ex
  refine ⟨⟨fun pins s σ H Q I ⟨S, env, lv, rel, fin⟩ => ?_⟩⟩
  refine PySem.W.methodCall_KW (pl := pl) (thn (ho.pe.run pins s σ H (fun v H1 => ∃ d, Pe T H H1 ∧ Rp X.K (hide S H1) v d ∧ isOb d = true ∧ Fin T ca (Rv X.K S) W σ H1 ((ms env).bind fun ds => if ds.length + 1 = n then g (d :: ds) else .stuck) Q) I ⟨S, env, lv, rel, ?_⟩) fun u s1 ⟨x, H1, I1, rx, d, p1, r1, hd, f1⟩ => ?_) ht
  · refine Fin.bind (R' := Rv X.K S) fin fun d v H1 _ p1 r1 f1 => ?_
    split at f1
    · exact ⟨d, p1, r1, by assumption, f1⟩
    · exact f1.elim
  · obtain ⟨a, t, kn, dn, kvs, es', fresh, rfl, rfl, ob, _, _⟩ := ob_rp r1 hd
    obtain ⟨C', dx, nn, e1, e2⟩ := ob.ex
    have hC : C' = C := by
      have := e1.symm.trans L.g
      cases this
      rfl
    subst hC
    obtain rfl : u = Value.ref a := rx
    have hfs : ([("now", V.ref nn), ("terms", .ref t), ("known", .ref kn), ("done", .ref dn)] : List (Str × V)).lookup m = none := by
      simp only [List.lookup] at hm ⊢
      revert hm
      repeat' split
      all_goals first | (intro h; cases h; done) | (intro _; rfl)
    refine getmeth_ok I1 (hide_some e2).2 L.cls M hfs ?_
    refine PySem.W.callWith_K (first := [.ref a]) (h₀ := X.base) I.ok.mod.kin M.kp (thn (ha.pa.run pos pins s1 σ H1 (fun vs H2 => vs.length + 1 = n ∧ ∃ ds, RpAll X.K (hide S H2) vs ds ∧ Pe T H1 H2 ∧ Fin T ca (Rv X.K S) W σ H2 (g (obD es' fresh :: ds)) Q) I1 ⟨S, env, lv.le p1, rel.le p1, ?_⟩) fun us s2 ⟨vs, H2, I2, r, hl, ds, rr, p2, f2⟩ => ⟨I2.kIn, ?_⟩) hst hpl
    · refine Fin.bind (R' := Ra X.K S) f1 fun ds vs H2 _ p2 r2 f2 => ?_
      split at f2
      · rename_i hl
        exact ⟨by rw [RpAll.length r2]; exact hl, ds, r2, p2, f2⟩
      · exact f2.elim
    · refine run_fnS (E := WE W) (us := .ref a :: us) (vs := .ref a :: vs) F' (hr.mono hk) hb (L2N.passAt tk σ) I2 (.cons rfl r) ⟨hl, S, _, (lv.le p1).le p2, .cons (Rp.le p2.rd r1) rr, ?_⟩
      exact fin_W f2 fun c H' _ z => z
end
end IL
namespace IL
open PySem PySem.Spec PyProof.Rows L2
/-! ### self.terms -/
def valS (es : List (D × D)) (k : Key) : Option D := (es.find? fun e => decide (keyS e.1 = some k)).map (·.2)
def termsOf : D → Option (List (D × D))
  | .dict [(.none, .tuple [.dict es, .bool _])] => if strKeys es = true then some es else none
  | _ => none
def gInOb (neg : Bool) (z o : D) : Option D := (keyS z).bind fun k => (termsOf o).map fun es => .bool (if neg then !(valS es k).isSome else (valS es k).isSome)
def gNames (o : D) : Option D := (termsOf o).map fun es => .list (es.map (·.1))
section
variable {T : Gam} {ca : XC → Addr} {X : Cx} {W : WX} {o e a b : Expr} {es : List Expr} {pos apos p2 : Pos} {mo ma : Ev} {ms : Env → Res (List D)}
theorem termsOf_is {d : D} {es : List (D × D)} (h : termsOf d = some es) : strKeys es = true ∧ ∃ fresh, d = obD es fresh := by
  unfold termsOf at h
  split at h
  · split at h
    · cases h
      exact ⟨by assumption, _, rfl⟩
    · cases h
  · cases h
theorem valS_rp {K : PySem.W.Frag} {G : Hp} {k : Key} (hk : keyS (kD k) = some k) : ∀ {kvs : List (Key × V)} {es : List (D × D)}, RpK K G kvs es → strKeys es = true → (valV kvs k).isSome = (valS es k).isSome
  | _, _, .nil, _ => rfl
  | _, _, .cons (k := k') (v := v) (kvs := kvs) (d := d) (es := es) h r, hs => by
    rw [strKeys, List.all_cons, Bool.and_eq_true] at hs
    have ih := valS_rp hk r hs.2
    cases k' with
    | inl i => cases hs.1
    | inr x =>
      by_cases e : (Sum.inr x : Key) = k
      · have h1 : valV ((Sum.inr x, v) :: kvs) k = some v := by
          show (((Sum.inr x, v) :: kvs).find? fun kv => decide (kv.1 = k)).map (·.2) = _
          rw [List.find?_cons_of_pos (by simpa using e)]
          rfl
        have h2 : valS ((kD (Sum.inr x), d) :: es) k = some d := by
          show (((kD (Sum.inr x), d) :: es).find? fun e => decide (keyS e.1 = some k)).map (·.2) = _
          rw [List.find?_cons_of_pos (by rw [← e]; simp [keyS, kD])]
          rfl
        rw [h1, h2]
        rfl
      · have h1 : valV ((Sum.inr x, v) :: kvs) k = valV kvs k := by
          show (((Sum.inr x, v) :: kvs).find? fun kv => decide (kv.1 = k)).map (·.2) = _
          rw [List.find?_cons_of_neg (by simpa using e)]
          rfl
        have h2 : valS ((kD (Sum.inr x), d) :: es) k = valS es k := by
          show (((kD (Sum.inr x), d) :: es).find? fun e => decide (keyS e.1 = some k)).map (·.2) = _
          rw [List.find?_cons_of_neg (by simpa [keyS, kD] using e)]
          rfl
        rw [h1, h2]
        exact ih
theorem keys_rp2 {K : PySem.W.Frag} {G : Hp} : ∀ {kvs : List (Key × V)} {es : List (D × D)}, RpK K G kvs es → RpAll K G (kvs.map fun kv => kV kv.1) (es.map (·.1))
  | _, _, .nil => .nil
  | _, _, .cons h r => .cons (rp_kD _) (keys_rp2 r)
/-- self.terms, read -/
theorem terms_pre {C : Addr} {S : List Addr} {env : IL.Env} {σ : L2.St} {H : Hp} {Q : VK} {g : D → Option D} (L : LooksC X.K C) (lv : Live T S H) (rel : RelE X.K (hide S H) env σ) (fin : Fin T ca (Rv X.K S) W σ H (m1 g mo env) Q) (hg : ∀ d z, g d = some z → ∃ es, termsOf d = some es)
    {Q' : VK} (h : ∀ (t : Addr) (kvs : List (Key × V)) (es : List (D × D)) (d z : D) (H1 : Hp), Live T S H1 → termsOf d = some es → g d = some z → Rd H1 t (.dK kvs) → RpK X.K (hide S H1) kvs es → Wants T X.K S H1 z Q → Q' (.ref t) H1) : tFld X.K (tI T ca X.K W mo) "terms" σ H Q' :=
  ⟨S, env, lv, rel, Fin.bind (R' := Rv X.K S) fin fun d v H1 _ p1 r1 f1 => by
    obtain ⟨z, hz, w⟩ := f1.some
    obtain ⟨es, he⟩ := hg d z hz
    obtain ⟨_, fr, rfl⟩ := termsOf_is he
    obtain ⟨a, t, kn, dn, kvs, es', fr', rfl, e1, ob, ht, r⟩ := ob_rp r1 rfl
    cases e1
    obtain ⟨C', dx, nn, e1, e2⟩ := ob.ex
    have hC : C' = C := by
      have := e1.symm.trans L.g
      cases this
      rfl
    subst hC
    exact ⟨a, C', dx, _, .ref t, rfl, (hide_some e2).2, L.cls, L.noT, rfl, h t kvs es _ z H1 (lv.le p1) he hz (rd_hide ht) r w⟩⟩
def mInOb (neg : Bool) (a o : Ev) : Ev := fun env => (a env).bind fun z => (o env).bind fun d => ofO (gInOb neg z d)
theorem inOb_pre {C : Addr} {S : List Addr} {env : IL.Env} {σ : L2.St} {H : Hp} {Q : VK} {neg : Bool} (L : LooksC X.K C) (lv : Live T S H) (rel : RelE X.K (hide S H) env σ) (fin : Fin T ca (Rv X.K S) W σ H (mInOb neg ma mo env) Q) :
    tI T ca X.K W ma σ H fun y H1 => tFld X.K (tI T ca X.K W mo) "terms" σ H1 fun x H2 => ∃ a r, x = .ref a ∧ DGet H2 a y r ∧ Q (.bl (if neg then !r.isSome else r.isSome)) H2 :=
  ⟨S, env, lv, rel, Fin.bind (R' := Rv X.K S) fin fun z v H1 _ p1 r1 f1 => by
    refine terms_pre (g := gInOb neg z) L (lv.le p1) (rel.le p1) f1 (fun d y hy => ?_) fun t kvs es d y H2 lv2 he hy ht r w => ?_
    · obtain ⟨k, hk, h2⟩ := Option.bind_eq_some_iff.mp hy
      obtain ⟨es, h3, _⟩ := Option.map_eq_some_iff.mp h2
      exact ⟨es, h3⟩
    · obtain ⟨k, hk, h2⟩ := Option.bind_eq_some_iff.mp hy
      obtain ⟨es', h3, rfl⟩ := Option.map_eq_some_iff.mp h2
      rw [he] at h3
      cases h3
      obtain ⟨rfl, hk2⟩ := keyS_rp r1 hk
      refine ⟨t, valV kvs k, rfl, .inl ⟨kvs, k, ht, rfl, rfl⟩, ?_⟩
      rw [valS_rp hk2 r (termsOf_is he).1]
      exact Wants.bl (T := T) (K := X.K) (S := S) w⟩
theorem ie_inTerms {C : Addr} (hu : X.A.units + 64 < cLine) (L : LooksC X.K C) (ha : IE T ca X W a ma) (ho : IE T ca X W o mo) (hb : attributeBase o "terms" X.env (eval o X.env) = eval o X.env := by rfl) (h1 : behindInMarks .In (.Attribute o "terms" apos) = false := by rfl) : IE T ca X W (.Compare a [.In] [.Attribute o "terms" apos] pos) (mInOb false ma mo) :=
  ⟨pe_imp (pe_cmp (pc_din (by omega) ha.pe (pe_fld ho.pe hb)) h1) fun σ H Q ⟨S, env, lv, rel, fin⟩ => inOb_pre (neg := false) L lv rel fin⟩
theorem ie_notInTerms {C : Addr} (hu : X.A.units + 64 < cLine) (L : LooksC X.K C) (ha : IE T ca X W a ma) (ho : IE T ca X W o mo) (hb : attributeBase o "terms" X.env (eval o X.env) = eval o X.env := by rfl) (h1 : behindInMarks .NotIn (.Attribute o "terms" apos) = false := by rfl) : IE T ca X W (.Compare a [.NotIn] [.Attribute o "terms" apos] pos) (mInOb true ma mo) :=
  ⟨pe_imp (pe_cmp (pc_dnotin (by omega) ha.pe (pe_fld ho.pe hb)) h1) fun σ H Q ⟨S, env, lv, rel, fin⟩ => inOb_pre (neg := true) L lv rel fin⟩
/-- list(self.terms) -/
theorem ie_listTerms {C : Addr} {p : Pos} (L : LooksC X.K C) (hm : X.mg "list" = none) (ho : IE T ca X W o mo) (hc : X.calm = true := by rfl) (hg : Gl X "list" := by rfl) (hb : attributeBase o "terms" X.env (eval o X.env) = eval o X.env := by rfl)
    (hs : starEach [.Attribute o "terms" apos] X.env = (false, eval (.Attribute o "terms" apos) X.env) :: starEach [] X.env := by rfl) (hpl : (backTo pos (starEach [] X.env)).any (·.1) = false := by rfl) : IE T ca X W (.Call (.Name "list" p) [.Attribute o "terms" apos] [] pos) (m1 gNames mo) :=
  ⟨pe_imp (pe_callTy (call_listD hc) hg hm (by decide +kernel) (pa_cons (pe_fld ho.pe hb) pa_nil hs) (by decide) (by decide) hs hpl) fun σ H Q ⟨S, env, lv, rel, fin⟩ => terms_pre (g := gNames) L lv rel fin (fun d z hz => let ⟨es, h, _⟩ := Option.map_eq_some_iff.mp hz; ⟨es, h⟩) fun t kvs es d z H1 lv1 he hz ht r w => by
    obtain ⟨es', h3, rfl⟩ := Option.map_eq_some_iff.mp hz
    rw [he] at h3
    cases h3
    exact ⟨t, kvs, rfl, ht, fun p hp => w.nlst lv1 (keys_rp2 r) p hp⟩⟩
end
end IL
namespace IL
open PySem PySem.Spec PyProof.Rows L2
/-! ### a method by its body's rule -/
structure FunMt (K : PySem.W.Frag) (C : Addr) (m qual : Str) (st : Stmt) (ps : List Str) : Prop where
  ex : ∃ f fd, L2.Fun K m qual st f fd ∧ Meth K C m f ∧ Binds K fd ps []
section
variable {T : Gam} {ca : XC → Addr} {P : Program} {w : World} {K : PySem.W.Frag} {mg : Str → Option Value} {base : Heap} {C : Addr} {x qual : Str} {st : Stmt} {N ps : List Str} {k n : Nat} {m : Sv}
theorem fn_okQ {f : Addr} {fd : FuncData} (F : L2.Fun K x qual st f fd) (S : FnScope N ps (defScope st)) 
    (hbody : ∀ (cdv : Value) (A : Around) (outer : List PySem.Env) (s : Shared) (H : Hp) (E : XK), Room k (A.deeper (envOfC qual (defScope st) s.heap.objs.size f cdv)) →
      ISs T ca (cxOf (L2N.CX P w) P w K mg base N qual (defScope st) f cdv A outer s H E) (fun c d _ H => E c d H) (defBody st) m) : FnOk P w K mg base (L2N.CX P w) (k + 1) f fd ps (SpD T ca K ps.length fun ds => outR (m (startE N.length ds))) := by
  obtain ⟨oc, od, kV, doc, pm, an, cdv, ct, osl, rfl, lk, hcd⟩ := F.ex
  refine fn_of lk hcd S (fun vs H Q E h => h.1) fun A outer s H vs Q E hr ⟨hl, S0, ds, lv, rr, fin⟩ => ⟨_, (hbody cdv A outer s H E hr).ps, H, S0, [], startE N.length ds, start_rel lv rr, ?_⟩
  have fin : Fin T ca (Rv K S0) (fun c d _ H' => E c d H') [] H (outR (m (startE N.length ds))) Q := fin
  cases hm : m (startE N.length ds) with
  | nx e => rw [hm] at fin; exact fun os σ H' r => fin .non H' r.pe .non
  | ret d => rw [hm] at fin; exact fun v H' p r => fin v H' p r
  | exc c => rw [hm] at fin; exact fun σ H' p => fin H' p
  | brk e => rw [hm] at fin; exact fin.elim
  | ct e => rw [hm] at fin; exact fin.elim
  | stuck => rw [hm] at fin; exact fin.elim
theorem fn_mt (U : FunMt K C x qual st ps) (hn : ps.length = n) (S : FnScope N ps (defScope st))
    (hbody : ∀ (f : Addr) (cdv : Value) (A : Around) (outer : List PySem.Env) (s : Shared) (H : Hp) (E : XK), Room k (A.deeper (envOfC qual (defScope st) s.heap.objs.size f cdv)) →
      ISs T ca (cxOf (L2N.CX P w) P w K mg base N qual (defScope st) f cdv A outer s H E) (fun c d _ H => E c d H) (defBody st) m) : FnM T ca P w K mg base (k + 1) C x n fun ds => outR (m (startE N.length ds)) := by
  obtain ⟨f, fd, F, M, hb⟩ := U.ex
  subst hn
  exact ⟨f, fd, ps, rfl, fn_okQ F S fun cdv A outer s H E hr => hbody f cdv A outer s H E hr, M, hb⟩
end
def mMeth0 (g : List D → Res D) (o : Ev) : Ev := fun env => (o env).bind fun d => if isOb d = true then g [d] else .stuck
section
variable {T : Gam} {ca : XC → Addr} {X : Cx} {W : WX} {o : Expr} {pos apos : Pos} {mo : Ev}
theorem ie_meth0 {C : Addr} {j k : Nat} {m : Str} {g : List D → Res D} {pl : Sem Bool} (L : LooksC X.K C) (F : FnM T ca X.prog X.w X.K X.mg X.base k C m 1 g) (hr : Room j X.A) (hk : k ≤ j) (tk : L2N.Takes X W) (ho : IE T ca X W o mo)
    (hm : ([("now", V.non), ("terms", V.non), ("known", V.non), ("done", V.non)] : List (Str × V)).lookup m = none := by rfl)
    (ht : eval (.Call (.Attribute o m apos) [] [] pos) X.env = (do
      let ov ← eval o X.env
      standAt apos.atName
      let (f, first) ← holding [ov] (getMethod ov m pl)
      callWith pos f first (backTo pos (starEach [] X.env)) (backToKw pos (keywordEach [] X.env))) := by rfl) :
    IE T ca X W (.Call (.Attribute o m apos) [] [] pos) (mMeth0 g mo) := by
  obtain ⟨f, fd, ps, hn, F', M, hb⟩ := F.ex
  refine ⟨⟨fun pins s σ H Q I ⟨S, env, lv, rel, fin⟩ => ?_⟩⟩
  refine PySem.W.methodCall_KW (pl := pl) (thn (ho.pe.run pins s σ H (fun v H1 => ∃ d, Pe T H H1 ∧ Rp X.K (hide S H1) v d ∧ isOb d = true ∧ Fin T ca (Rv X.K S) W σ H1 (g [d]) Q) I ⟨S, env, lv, rel, ?_⟩) fun u s1 ⟨x, H1, I1, rx, d, p1, r1, hd, f1⟩ => ?_) ht
  · refine Fin.bind (R' := Rv X.K S) fin fun d v H1 _ p1 r1 f1 => ?_
    split at f1
    · exact ⟨d, p1, r1, by assumption, f1⟩
    · exact f1.elim
  · obtain ⟨a, t, kn, dn, kvs, es', fresh, rfl, rfl, ob, _, _⟩ := ob_rp r1 hd
    obtain ⟨C', dx, nn, e1, e2⟩ := ob.ex
    have hC : C' = C := by
      have := e1.symm.trans L.g
      cases this
      rfl
    subst hC
    obtain rfl : u = Value.ref a := rx
    have hfs : ([("now", V.ref nn), ("terms", .ref t), ("known", .ref kn), ("done", .ref dn)] : List (Str × V)).lookup m = none := by
      simp only [List.lookup] at hm ⊢
      revert hm
      repeat' split
      all_goals first | (intro h; cases h; done) | (intro _; rfl)
    refine getmeth_ok I1 (hide_some e2).2 L.cls M hfs ?_
    exact PySem.W.callWith_K0 (first := [.ref a]) I1.kIn M.kp (run_fnS (E := WE W) (us := [.ref a]) (vs := [.ref a]) F' (hr.mono hk) hb (L2N.passAt tk σ) I1 (.cons rfl .nil) ⟨rfl, S, [_], lv.le p1, .cons r1 .nil, fin_W f1 fun c H' _ z => z⟩)
end
end IL
namespace IL
open PySem PySem.Spec PyProof.Rows L2
/-! ### texts' methods -/
def isS : D → Bool
  | .str _ => true
  | _ => false
def mM1 (g : D → D → Option D) (a b : Ev) : Ev := fun env => (a env).bind fun d => if isS d = true then (b env).bind fun e => ofO (g d e) else .stuck
def strL : List D → Option (List Str)
  | [] => some []
  | .str x :: r => (strL r).map (x :: ·)
  | _ => none
def joinOk (a : Str) (ys : List Str) : Bool := decide ((ys.map (·.length)).sum + ys.length * a.length ≤ 1000000)
def gJoin : D → D → Option D
  | .str a, .list xs => (strL xs).bind fun ys => if joinOk a ys = true then some (.str (Txt.join a ys)) else none
  | .str a, .tuple xs => (strL xs).bind fun ys => if joinOk a ys = true then some (.str (Txt.join a ys)) else none
  | _, _ => none
def gSplit : D → D → Option D
  | .str a, .str b => if !(b.length == 0) && big (a.length + 2) = true then some (.list ((Txt.split a b).map .str)) else none
  | _, _ => none
def gStrI : List D → Option D
  | [.int i] => if decide (i.natAbs.log2 < 1920) = true then some (.str (toString i)) else none
  | _ => none
def gIntS : List D → Option D
  | [.str a] => if decide (a.length ≤ 640) = true then (PySem.intText? a).map .int else none
  | _ => none
section
variable {T : Gam} {ca : XC → Addr} {X : Cx} {W : WX} {o e a b : Expr} {es : List Expr} {pos apos p2 pos' : Pos} {mo me ma mb : Ev} {ms : Env → Res (List D)}
theorem isS_is {d : D} (h : isS d = true) : ∃ x, d = .str x := by cases d <;> first | exact ⟨_, rfl⟩ | cases h
theorem strL_rp {K : PySem.W.Frag} {G : Hp} : ∀ {vs : List V} {ds : List D} {ys : List Str}, RpAll K G vs ds → strL ds = some ys → vs = ys.map V.str
  | _, _, _, .nil, h => by cases h; rfl
  | _, _, _, .cons (d := d) h r, e => by
    cases d with
    | str b =>
      obtain ⟨bs, h1, rfl⟩ := Option.map_eq_some_iff.mp e
      cases rp_str h
      rw [strL_rp r h1] <;> rfl
    | _ => cases e
/-- a method of a text, one argument -/
theorem m1_pre {S : List Addr} {env : Env} {σ : L2.St} {H : Hp} {Q : VK} {r : V → List V → Hp → VK → Prop} {g : D → D → Option D} (lv : Live T S H) (rel : RelE X.K (hide S H) env σ) (fin : Fin T ca (Rv X.K S) W σ H (mM1 g mo me env) Q)
    (hr : ∀ (x : Str) (y : V) (d z : D) (H : Hp), Live T S H → Rp X.K (hide S H) y d → g (.str x) d = some z → Wants T X.K S H z Q → r (.str x) [y] H Q) : tM1 r (tI T ca X.K W mo) (tI T ca X.K W me) σ H Q :=
  ⟨S, env, lv, rel, Fin.bind (R' := Rv X.K S) fin fun d v H1 _ p1 r1 f1 => by
    split at f1
    · rename_i hd
      obtain ⟨x, rfl⟩ := isS_is hd
      cases rp_str r1
      exact ⟨⟨x, rfl⟩, S, env, lv.le p1, rel.le p1, Fin.bind (R' := Rv X.K S) f1 fun e u H2 _ p2 r2 f2 => by
        obtain ⟨z, hz, w⟩ := f2.some
        exact hr x u e z H2 ((lv.le p1).le p2) r2 hz w⟩
    · exact f1.elim⟩
theorem joinOk_le {a : Str} {ys : List Str} (h : joinOk a ys = true) : (ys.map (·.length)).sum + ys.length * a.length ≤ 16777216 := Nat.le_trans (of_decide_eq_true h) (by decide)
theorem ie_join (ho : IE T ca X W o mo) (he : IE T ca X W e me) (hs : starEach [e] X.env = [(false, eval e X.env)] := by rfl) (hbase : attributeBase o "join" X.env (eval o X.env) = eval o X.env := by rfl) (hline : (apos.endLine == pos.line) = true := by rfl) :
    IE T ca X W (.Call (.Attribute o "join" apos) [e] [] pos) (mM1 gJoin mo me) :=
  ⟨pe_imp (pe_join ho.pe he.pe hs hbase hline) fun σ H Q ⟨S, env, lv, rel, fin⟩ => m1_pre lv rel fin fun x y d z H1 lv1 r1 g w => by
    cases d with
    | list xs =>
      obtain ⟨ys, h1, h2⟩ := Option.bind_eq_some_iff.mp g
      split at h2
      · cases h2
        obtain ⟨a, vs, rfl, h3, rr⟩ := rp_lst r1
        cases strL_rp rr h1
        exact ⟨x, a, ys, rfl, rfl, .inl (sqL_hide h3), joinOk_le (by assumption), w.str⟩
      · cases h2
    | tuple xs =>
      obtain ⟨ys, h1, h2⟩ := Option.bind_eq_some_iff.mp g
      split at h2
      · cases h2
        obtain ⟨a, vs, rfl, h3, rr⟩ := rp_tup r1
        cases strL_rp rr h1
        exact ⟨x, a, ys, rfl, rfl, .inr (tup_hide h3), joinOk_le (by assumption), w.str⟩
      · cases h2
    | _ => cases g⟩
theorem strAll_of {K : PySem.W.Frag} {G : Hp} : ∀ zs : List Str, RpAll K G (zs.map V.str) (zs.map PyData.str)
  | [] => .nil
  | z :: zs => .cons (.str z) (strAll_of zs)
theorem ie_split (ho : IE T ca X W o mo) (he : IE T ca X W e me) (hs : starEach [e] X.env = [(false, eval e X.env)] := by rfl) (hbase : attributeBase o "split" X.env (eval o X.env) = eval o X.env := by rfl) (hline : (apos.endLine == pos.line) = true := by rfl) :
    IE T ca X W (.Call (.Attribute o "split" apos) [e] [] pos) (mM1 gSplit mo me) :=
  ⟨pe_imp (pe_split ho.pe he.pe hs hbase hline) fun σ H Q ⟨S, env, lv, rel, fin⟩ => m1_pre lv rel fin fun x y d z H1 lv1 r1 g w => by
    cases d with
    | str b =>
      have g : (if !(b.length == 0) && big (x.length + 2) = true then some (PyData.list ((Txt.split x b).map .str)) else none) = some z := g
      split at g
      · rename_i hc
        rw [Bool.and_eq_true] at hc
        cases g
        cases rp_str r1
        refine ⟨x, b, rfl, rfl, by simpa using hc.1, big_ok (of_decide_eq_true hc.2), w.nlst lv1 (strAll_of _)⟩
      · cases g
    | _ => cases g⟩
theorem imp_strI : ImpN T X.K (fun xs H Q => ∃ i, xs = [.int i] ∧ i.natAbs.log2 < 1920 ∧ Q (.str (toString i)) H) gStrI := by
  intro S xs ds z H Q lv r g w
  unfold gStrI at g
  split at g
  · split at g
    · rename_i hc
      cases r with
      | cons h r => cases r; cases rp_int h; cases g; exact ⟨_, rfl, of_decide_eq_true hc, w.str⟩
    · cases g
  · cases g
theorem imp_intS : ImpN T X.K (fun xs H Q => ∃ a n, xs = [.str a] ∧ PySem.intText? a = some n ∧ a.length ≤ 640 ∧ Q (.int n) H) gIntS := by
  intro S xs ds z H Q lv r g w
  unfold gIntS at g
  split at g
  · split at g
    · rename_i hc
      obtain ⟨n, h1, rfl⟩ := Option.map_eq_some_iff.mp g
      cases r with
      | cons h r => cases r; cases rp_str h; exact ⟨_, n, rfl, h1, of_decide_eq_true hc, w.int⟩
    · cases g
  · cases g
end
/-! ### found[path] = v -/
def tKeys (es : List (D × D)) : Bool := es.all fun e => (keyT e.1).isSome
def sPutT (i : Nat) (mv mk : Ev) : Sv := fun env => match env[i]? with
  | some (some (.own (.dict es))) => liftR (mv (hid env)) fun d => liftR (mk (hid env)) fun k => match keyT k with
    | some kk => if tKeys es && big es.length = true then .nx (env.set i (some (.own (.dict (putT es kk d))))) else .stuck
    | none => .stuck
  | _ => .stuck
theorem putT_rp {K : PySem.W.Frag} {G : Hp} {k : List Key} {v : V} {d : D} (rv : Rp K G v d) {kvs : List (List Key × V)} {es : List (D × D)} (r : RpT K G kvs es) : RpT K G (putK kvs k v) (putT es k d) := by
  have any_eq : ∀ {kvs : List (List Key × V)} {es : List (D × D)}, RpT K G kvs es → (kvs.any fun kv => decide (kv.1 = k)) = (es.any fun e => decide (keyT e.1 = some k)) := by
    intro kvs es r
    induction kvs generalizing es with
    | nil => cases r; rfl
    | cons p kvs ih =>
      cases r with
      | @cons k' _ _ _ _ h r =>
        rw [List.any_cons, List.any_cons, ih r, keyT_tuple]
        simp
  have map_eq : ∀ {kvs : List (List Key × V)} {es : List (D × D)}, RpT K G kvs es → RpT K G (kvs.map fun kv => if kv.1 = k then (kv.1, v) else kv) (es.map fun e => if keyT e.1 = some k then (e.1, d) else e) := by
    intro kvs es r
    induction kvs generalizing es with
    | nil => cases r; exact .nil
    | cons p kvs ih =>
      cases r with
      | @cons k' v' _ d' es' h r =>
        rw [List.map_cons, List.map_cons]
        by_cases e : k' = k
        · have e2 : keyT (.tuple (k'.map kD)) = some k := by rw [keyT_tuple, e]
          rw [if_pos e, if_pos e2]
          exact .cons rv (ih r)
        · have e2 : ¬ keyT (.tuple (k'.map kD)) = some k := fun z => e (by rw [keyT_tuple] at z; exact Option.some.inj z)
          rw [if_neg e, if_neg e2]
          exact .cons h (ih r)
  have app : ∀ {kvs : List (List Key × V)} {es : List (D × D)}, RpT K G kvs es → RpT K G (kvs ++ [(k, v)]) (es ++ [(.tuple (k.map kD), d)]) := by
    intro kvs es r
    induction kvs generalizing es with
    | nil => cases r; exact .cons rv .nil
    | cons p kvs ih =>
      cases r with
      | cons h r => exact .cons h (ih r)
  unfold putK putT
  rw [any_eq r]
  cases h : es.any fun e => decide (keyT e.1 = some k) with
  | true => simpa using map_eq r
  | false => simpa using app r
section
variable {T : Gam} {ca : XC → Addr} {X : Cx} {W : WX} {o e a b : Expr} {es : List Expr} {pos apos p2 pos' : Pos} {mo me ma mb : Ev} {ms : Env → Res (List D)}
theorem is_putT {i : Nat} {x : Str} {px : Pos} {k v : Expr} {mk mv : Ev} (hu : X.A.units + 64 < cLine) (hk : IE T ca X W k mk) (hv : IE T ca X W v mv) (hi : X.N[i]? = some x := by rfl) (hvis : Vis X.env.scope x := by first | exact Or.inl rfl | exact Or.inr (Or.inl rfl) | exact Or.inr (Or.inr rfl)) (hd : (x == ("__debug__" : Str)) = false := by decide) (hcd : (x == ("__classdict__" : Str)) = false := by decide)
    (hs : swapsWith v (some (.Subscript (.Name x px) k pos')) pos.line X.env = pure false := by rfl) : IS T ca X W (.Assign [.Subscript (.Name x px) k pos'] v pos) (sPutT i mv mk) :=
  ⟨ps_imp (ps_dput (by omega) (pe_var hi hvis hd hcd) hk.pe hv.pe hs) fun D σ H ⟨H0, S0, os, env, rel, fin⟩ => by
    unfold sPutT at fin
    split at fin
    · rename_i es he
      refine ⟨os ++ S0, hid env, rel.lv, rel.hidE, fin_hid (R := Rv X.K (os ++ S0)) rel fin fun d v H1 p1 rel1 rv f => ?_⟩
      obtain ⟨p, h1, h2, _⟩ := rel1.own i _ he
      refine ⟨.ref p, h1, os ++ S0, hid env, rel1.lv, rel1.hidE, fin_hid (R := Rv X.K (os ++ S0)) rel1 f fun kd y H2 p2 rel2 ry f2 => ?_⟩
      split at f2
      · rename_i kk hkk
        split at f2
        · rename_i hb
          rw [Bool.and_eq_true] at hb
          obtain ⟨p', h1', h2', h3'⟩ := rel2.own i _ he
          rw [h1] at h1'
          cases h1'
          obtain ⟨q, rfl, hq, _⟩ := key_rp ry hkk
          cases h3' with
          | @dT kvs _ e r =>
            have hl := r.len
            have hsz : kvs.length < sizeLine := by
              have := of_decide_eq_true (of_decide_eq_true hb.2)
              have : (1000000 : Nat) < sizeLine := by decide
              omega
            exact ⟨p, _, rfl, DPut.t e hq hsz, f2 _ _ _ (rel2.putOwn he h1 h2' rfl (.dT upd_same (putT_rp (Rp.le p2.rd rv) r)))⟩
          | dK e r => exact absurd hb.1 (by unfold tKeys; rw [List.all_cons]; exact Bool.false_ne_true)
          | ob => exact absurd hb.1 (by unfold tKeys; rw [List.all_cons]; exact Bool.false_ne_true)
        · exact f2.elim
      · exact f2.elim
    · exact fin.elim⟩
/-- a, b = e, f -/
def sPar (i j : Nat) (ma mb : Ev) : Sv := fun env => liftR (ma (hid env)) fun d => liftR (mb (hid env)) fun e => .nx ((env.set i (some (.val d))).set j (some (.val e)))
theorem is_par {i j : Nat} {x y : Str} {px py pt : Pos} {kt k2 pt2} (hN : X.N.Nodup) (ha : IE T ca X W a ma) (hb : IE T ca X W b mb) (hi : X.N[i]? = some x := by rfl) (hj : X.N[j]? = some y := by rfl) (hij : i ≠ j := by decide) (hc : X.calm = true := by rfl)
    (hx : X.env.scope.names.lookup x = some .local := by rfl) (hy : X.env.scope.names.lookup y = some .local := by rfl) (hst : starEach [a, b] X.env = (false, eval a X.env) :: starEach [b] X.env := by rfl) (hst2 : starEach [b] X.env = (false, eval b X.env) :: starEach [] X.env := by rfl)
    (hw : swappedStores [.Tuple [.Name x px, .Name y py] kt pt] (.Tuple [a, b] k2 pt2) X.env = pure (some [x, y]) := by rfl) (hs : swapsWithSole [.Tuple [.Name x px, .Name y py] kt pt] (.Tuple [a, b] k2 pt2) pos.line X.env = pure false := by rfl) :
    IS T ca X W (.Assign [.Tuple [.Name x px, .Name y py] kt pt] (.Tuple [a, b] k2 pt2) pos) (sPar i j ma mb) :=
  ⟨ps_imp (ps_par hc hN hi hj hij hx hy (pa_cons ha.pe (pa_cons hb.pe pa_nil hst2) hst) hw hs) fun D σ H ⟨H0, S0, os, env, rel, fin⟩ => by
    refine ⟨os ++ S0, hid env, rel.lv, rel.hidE, fin_hid (R := Rv X.K (os ++ S0)) rel fin fun d v H1 p1 rel1 rv f => ?_⟩
    refine ⟨os ++ S0, hid env, rel1.lv, rel1.hidE, fin_hid (R := Rv X.K (os ++ S0)) rel1 f fun e u H2 p2 rel2 ru f2 => ?_⟩
    exact ⟨v, u, rfl, f2 _ _ _ ((rel2.set (Rp.le p2.rd rv) i).set ru j)⟩⟩
end
end IL
namespace IL
open PySem PySem.Spec PyProof.Rows L2 PySem.W
/-! ### sorted(d), d's keys tuples of texts -/
def pathD (k : List Str) : PyData := .tuple (k.map .str)
theorem alike_strs : ∀ xs ys : List Str, alikeAll (xs.map .str) (ys.map .str) = true
  | [], _ => by rw [List.map_nil, alikeAll]
  | _ :: _, [] => by rw [List.map_nil, List.map_cons, alikeAll]
  | x :: xs, y :: ys => by rw [List.map_cons, List.map_cons, alikeAll, alike_strs xs ys, alike]; rfl
theorem alike_path (k k' : List Str) : alike (pathD k) (pathD k') = true := by unfold pathD; rw [alike]; exact alike_strs k k'
theorem depth_strs : ∀ xs : List Str, PyData.depthAll (xs.map .str) = 0
  | [] => by rw [List.map_nil, PyData.depthAll]
  | x :: xs => by rw [List.map_cons, PyData.depthAll, depth_strs xs, PyData.depth]; rfl
theorem depth_path (k : List Str) : (pathD k).depth ≤ 1 := by
  unfold pathD
  rw [PyData.depth, depth_strs]
  exact Nat.le_refl _
theorem reads_strs {h : Heap} : ∀ {k : List Str} {us : List Value}, Vals (k.map V.str) us → ReadsAll h us (k.map .str) []
  | [], us, r => by
    rw [List.map_nil] at r
    cases r
    exact .nil
  | x :: k, us, r => by
    rw [List.map_cons] at r
    cases r with
    | cons r1 r2 =>
      obtain ⟨t, rfl⟩ := (show ∃ t, _ = Value.str x t from r1)
      exact .cons (.str x t) (reads_strs r2)
theorem reads_path {P : Program} {w : World} {H : Hp} {h : Heap} (ok : HOk P w H h) {q : Addr} {k : List Str} (e : H q = some (.tup (k.map V.str))) : Reads h (.ref q) (pathD k) [] := by
  obtain ⟨_, its, r, o, h1, h2, n, h3⟩ := (show ObjOk P w H h q (.tup (k.map V.str)) from ok q _ e)
  exact .tuple h1 h2 h3 (by simpa using reads_strs r)
/-- a value and the path whose tuple it is -/
def IsPath (H : Hp) (v : Value) (k : List Str) : Prop := ∃ q, v = Value.ref q ∧ H q = some (.tup (k.map V.str))
def vV : Value → V
  | .ref a => .ref a
  | _ => .non
theorem each_vals {H : Hp} {vs : List Value} {ks : List (List Str)} (e : EachIs (IsPath H) vs ks) : Vals (vs.map vV) vs := by
  induction e with
  | nil => exact .nil
  | cons h _ ih =>
    obtain ⟨q, rfl, _⟩ := h
    exact .cons rfl ih
theorem each_map2 {α β γ : Type} {R : α → β → Prop} {R' : γ → β → Prop} {f : α → γ} (h : ∀ a b, R a b → R' (f a) b) {as : List α} {bs : List β} (e : EachIs R as bs) : EachIs R' (as.map f) bs := by
  induction e with
  | nil => exact .nil
  | cons h1 _ ih => exact .cons (h _ _ h1) ih
theorem kV_strs (k : List Str) : (k.map (Sum.inr : Str → Key)).map kV = k.map V.str := by rw [List.map_map] <;> rfl
theorem each_keys {H : Hp} : ∀ {kvs : List (List Key × V)} {xs : List (List Key × Addr × Value)} {ks : List (List Str)}, KT H kvs xs → kvs.map (·.1) = ks.map (·.map Sum.inr) → EachIs (IsPath H) (xs.map fun x => Value.ref x.2.1) ks
  | _, _, ks, .nil, e => by
    cases ks with
    | nil => exact .nil
    | cons => cases e
  | _, _, ks, .cons (a := p) (b := q) h t, e => by
    cases ks with
    | nil => cases e
    | cons k ks =>
      rw [List.map_cons, List.map_cons] at e
      obtain ⟨e1, e2⟩ := List.cons.inj e
      exact .cons ⟨_, rfl, by rw [h.2.1, e1, kV_strs]⟩ (each_keys t e2)
def rSortedDT : List V → Hp → VK → Prop := fun xs H Q => ∃ (a : Addr) (kvs : List (List Key × V)) (ks : List (List Str)), xs = [.ref a] ∧ Rd H a (.dT kvs) ∧ kvs.map (·.1) = ks.map (·.map Sum.inr) ∧ (∀ k ∈ ks, k ≠ []) ∧
  ∀ (out : List V) (p : Addr), EachIs (fun v k => ∃ q, v = V.ref q ∧ H q = some (.tup (k.map V.str))) out (ks.mergeSort (dataLe false pathD)) → H p = none → Q (.ref p) (upd H p (.lst out))
section
variable {X : Cx}
theorem call_sortedDT (hcalm : X.calm = true) (hu : X.A.units + 64 < cLine) : CallR X (.builtin "sorted") rSortedDT := by
  rintro pins s σ H xs us Q I r ⟨a, kvs, ks, rfl, hd, hks, hne, q⟩
  obtain ⟨u, rfl, rx⟩ := vals1 r
  cases rx
  obtain ⟨z, lo, ms, rel, o, es, ep, h1, h2, h3, h4, h5, h6⟩ := dt_rd I.hok hd
  have hlen : es.size = ms.length := by rw [← Array.length_toList, h4, List.length_map]
  have hlk : kvs.length = ks.length := by simpa using congrArg List.length hks
  have hlm : kvs.length = ms.length := rel.length
  have hEach := each_keys rel hks
  refine Calls.call_function_entry kind_sorted plain_sorted entry_sorted (args_sorted1 _) ?_
  unfold Builtin.«sorted»
  refine wpAny_bind (m := checkCount "sorted" 1 1 _) (wpAny_pure ?_)
  refine wpAny_bind (kdu_collect (A := X.A.in1) (KdlSrc.rawDict lo) (I.ok.hd hcalm) ⟨o, h1, h2, h3⟩ (by omega) fun h' tk acc hk hacc => ?_)
  have hal : acc.toList.length = ms.length := by rw [Array.length_toList, hacc.1, hlen]
  have ev : acc.toList = ms.map fun x => Value.ref x.2.1 := by
    apply List.ext_getElem?
    intro j
    by_cases hj : j < ms.length
    · have hj1 : j < acc.toList.length := by omega
      rw [List.getElem?_eq_getElem hj1, List.getElem?_map, List.getElem?_eq_getElem hj]
      obtain ⟨hi, e⟩ := hacc.2 j acc.toList[j] (by rw [← Array.getElem?_toList]; exact List.getElem?_eq_getElem hj1)
      have e2 : es[j] = entryOfKey (tupleKind (mixKind X.prog X.w)) ms[j] := by
        have e3 : es.toList[j]? = (ms.map (entryOfKey (tupleKind (mixKind X.prog X.w))))[j]? := by rw [h4]
        rw [List.getElem?_map, List.getElem?_eq_getElem hj, Array.getElem?_toList, Array.getElem?_eq_getElem hi] at e3
        exact Option.some.inj e3
      rw [e, e2] <;> rfl
    · rw [List.getElem?_eq_none (by omega), List.getElem?_eq_none (by rw [List.length_map]; omega)]
  have I1 : Inv X pins σ H { s with heap := h', toks := tk } := I.kept hk
  rw [← ev] at hEach
  refine wpAny_bind (wpAny_newList ?_ (by rw [hal]; omega))
  have hoL : (h'.push (seqObj "list" acc.toList.toArray 0)).get? h'.objs.size = some (seqObj "list" acc.toList.toArray 0) := Heap.get?_push_size _ rfl
  show wpAny _ _ _ _ _ { s with toks := tk, heap := h'.push (seqObj "list" acc.toList.toArray 0) }
  have ok2 : HOk X.prog X.w H (h'.push (seqObj "list" acc.toList.toArray 0)) := I1.hok.kept fun b o e => Heap.get?_push_of_some _ e
  refine wpAny_bind (wpAny_holding (list_sort_data (s := { s with toks := tk, heap := h'.push (seqObj "list" acc.toList.toArray 0) }) (R := IsPath H) (enc := pathD) hoL hEach (hEach.mono fun v k ⟨q, e1, e2⟩ => ⟨[], by rw [e1]; exact reads_path ok2 e2, by simp⟩) (AllAlike.of alike_path) (.inl fun d hd => ?_) (by omega) (fun k _ => ?_) fun out hol hoe => ?_))
  · obtain ⟨k, hk2, rfl⟩ := List.mem_map.mp hd
    cases k with
    | nil => exact absurd rfl (hne _ hk2)
    | cons x k => exact ⟨.str x, k.map .str, rfl⟩
  · have := depth_path k
    show X.A.units + 1 + 1 + _ < cLine
    omega
  · obtain ⟨e', he'⟩ := sortedHeap_at (vs := acc.toList) (out := out.toArray) hoL
    have hz : (out.map vV).length ≤ sizeLine := by rw [List.length_map, hol, ← hlk]; exact z
    refine wpAny_pure ⟨_, rfl, .ref h'.objs.size, upd H h'.objs.size (.lst (out.map vV)), I1.laid (t' := tk) (fun b u e => ?_) (Nat.le_refl _) (show ObjOk X.prog X.w _ _ _ (.lst (out.map vV)) from ⟨hz, out, e', each_vals hoe, he'⟩), rfl, q _ _ (each_map2 (fun v k ⟨q, e1, e2⟩ => ⟨q, by rw [e1] <;> rfl, e2⟩) hoe) (I1.hok.fresh (Nat.le_refl _))⟩
    have hb : b < h'.objs.size := Heap.lt_size e
    rw [sortedHeap_old (Nat.ne_of_lt hb) (by rw [size_push']; exact Nat.lt_succ_of_lt hb)]
    exact Heap.get?_push_of_some _ e
end
end IL
namespace IL
open PySem PySem.Spec PyProof.Rows L2 PySem.W
/-! ### two dicts compared -/
section
variable {prog : Program} {w : World} {A : Around} {E : Value → Shared → Prop} {s : Shared}
/-- the loop over the first one's entries; c: what each comparison answers -/
theorem same_pairs {nm : String} {a b : Addr} {o1 o2 : Obj} {es fs : Array DictEntry} {n1 n2 : Nat} {Q : Bool → Shared → Prop} (na : (a == sysModules) = false) (nb : (b == sysModules) = false)
    (g1 : s.heap.get? a = some o1) (d1 : o1.data = .dict es n1) (g2 : s.heap.get? b = some o2) (d2 : o2.data = .dict fs n2) (c : Nat → Bool)
    (find : es.size = fs.size → ∀ i (hi : i < es.size) (R : Option Nat → Shared → Prop), (c i = false → R none s) → (∀ (j : Nat) (hj : j < fs.size), SeqAt.EqAt A s es[i].val fs[j].val (c i) → R (some j) s) → wpAny (model prog w) A (dictFind b es[i].key es[i].hash) R E s)
    (h : Q (es.size == fs.size && (List.range es.size).all c) s) : wpAny (model prog w) A (Builtin.Dict.samePairs nm a b) Q E s := by
  unfold Builtin.Dict.samePairs Builtin.Dict.showsAll
  rw [na, nb]
  simp only [Bool.false_eq_true, if_false]
  refine wpAny_bind (wpAny_pure (wpAny_bind (wpAny_pure (wpAny_bind (wpAny_dictEntries g1 d1 ?_)))))
  try dsimp only
  refine wpAny_bind (wpAny_dictEntries g2 d2 ?_)
  by_cases hs : es.size = fs.size
  · have hQ : Q ((List.range es.size).all c) s := by simpa [hs] using h
    rw [if_neg (by simp [hs])]
    refine wpAny_bind (wpAny_dictEpoch g1 d1 (wpAny_bind ?_))
    rw [Std.Legacy.Range.forIn_eq_forIn_range']
    simp only [Std.Legacy.Range.size, Nat.sub_zero, Nat.add_sub_cancel, Nat.div_one]
    refine wpAny_forIn_list _ (fun rest q s' => s' = s ∧ q = (none, ()) ∧ ∃ i, rest = List.range' i (es.size - i) ∧ i ≤ es.size ∧ ∀ j, j < i → c j = true) _ ?_ ?_ _ _ ⟨rfl, rfl, 0, by simp, Nat.zero_le _, fun j hj => absurd hj (Nat.not_lt_zero _)⟩
    · rintro x rest q s' ⟨rfl, rfl, i, hr, hi, hall⟩
      have hlt : i < es.size := by
        apply Classical.byContradiction
        intro z
        rw [show es.size - i = 0 by omega] at hr
        cases hr
      obtain ⟨rfl, hrest⟩ : x = i ∧ rest = List.range' (i + 1) (es.size - (i + 1)) := by
        rw [show es.size - i = (es.size - (i + 1)) + 1 by omega, List.range'_succ] at hr
        exact ⟨(List.cons.inj hr).1, (List.cons.inj hr).2⟩
      have bad : c x = false → Q false s' := fun hf => by
        have : (List.range es.size).all c = false := by
          rw [List.all_eq_false]
          exact ⟨x, List.mem_range.mpr hlt, by simp [hf]⟩
        rwa [this] at hQ
      refine wpAny_bind (wpAny_dictEntries g1 d1 ?_)
      rw [Array.getElem?_eq_getElem hlt]
      show wpAny _ _ (holding [es[x].key, es[x].val] _ >>= _) _ _ _
      refine wpAny_bind (wpAny_holding (wpAny_bind (find hs x hlt _ (fun hf => ?_) fun j hj he => ?_)))
      · refine wpAny_pure ?_
        show wpAny _ _ (if (!false) = true then _ else _) _ _ _
        rw [if_pos (by decide)]
        exact wpAny_pure (wpAny_pure (bad hf))
      · refine wpAny_bind (wpAny_dictEntries g2 d2 ?_)
        rw [Array.getElem?_eq_getElem hj]
        refine wpAny_holding (he prog w _ _ ?_)
        cases hc : c x with
        | false =>
          show wpAny _ _ (if (!false) = true then _ else _) _ _ _
          rw [if_pos (by decide)]
          exact wpAny_pure (wpAny_pure (bad hc))
        | true =>
          show wpAny _ _ (if (!true) = true then _ else _) _ _ _
          rw [if_neg (by decide)]
          refine wpAny_bind (wpAny_dictEpoch g1 d1 ?_)
          rw [if_neg (by simp)]
          exact wpAny_pure ⟨rfl, rfl, x + 1, hrest, hlt, fun j hj => by
            by_cases z : j = x
            · rw [z]; exact hc
            · exact hall j (by omega)⟩
    · rintro q s' ⟨rfl, rfl, i, hr, hi, hall⟩
      have hin : i = es.size := by
        apply Classical.byContradiction
        intro z
        rw [show es.size - i = (es.size - (i + 1)) + 1 by omega, List.range'_succ] at hr
        cases hr
      refine wpAny_pure ?_
      have : (List.range es.size).all c = true := List.all_eq_true.mpr fun j hj => hall j (by rw [hin]; exact List.mem_range.mp hj)
      rwa [this] at hQ
  · rw [if_pos (by simpa using hs)]
    have hf : (es.size == fs.size) = false := by simpa using hs
    rw [hf, Bool.false_and] at h
    exact wpAny_bind (wpAny_rule (wpAny_pure h))
theorem dict_eqw {a b : Addr} {o1 o2 : Obj} {es fs : Array DictEntry} {n1 n2 : Nat} {Q : Value → Shared → Prop} (na : (a == sysModules) = false) (nb : (b == sysModules) = false)
    (g1 : s.heap.get? a = some o1) (x1 : o1.ExactDict) (d1 : o1.data = .dict es n1) (g2 : s.heap.get? b = some o2) (x2 : o2.ExactDict) (d2 : o2.data = .dict fs n2) (c : Nat → Bool) (hu : A.units < cLine)
    (find : es.size = fs.size → ∀ (E : Value → Shared → Prop) i (hi : i < es.size) (R : Option Nat → Shared → Prop), (c i = false → R none s) → (∀ (j : Nat) (hj : j < fs.size), SeqAt.EqAt A.in1 s es[i].val fs[j].val (c i) → R (some j) s) → wpAny (model prog w) A.in1 (dictFind b es[i].key es[i].hash) R E s)
    (h : Q (.bool (es.size == fs.size && (List.range es.size).all c)) s) : wpAny (model prog w) A (compareOp .Eq (.ref a) (.ref b)) Q E s := by
  have t1 : s.TypeIs (.ref a) "dict" := ⟨o1, g1, x1.1⟩
  have t2 : s.TypeIs (.ref b) "dict" := ⟨o2, g2, x2.1⟩
  refine wpAny_richCompare_same_room (op := .Eq) t1 t2 PySem.F.slot_dict_eq (wpAny_call_entry PySem.F.slot_dict_eq t1 PySem.F.entry_dict_eq ?_ (PySem.F.args_dict_eq_2 _ _)) hu
  show wpAny _ _ (Builtin.Dict.dictSlotArgs "__eq__" ⟨[.ref a, .ref b], []⟩ >>= _) _ _ s
  refine wpAny_bind ?_
  unfold Builtin.Dict.dictSlotArgs
  refine wpAny_bind (wpAny_notOrdered_dict t1 ?_)
  show wpAny _ _ (pure (Value.ref a, Value.ref b)) _ _ s
  refine wpAny_pure (wpAny_bind (wpAny_isInstance (T := "dict") t2 PySem.F.sub_dict_dict ?_))
  simp only [Bool.not_true, Bool.false_eq_true, if_false]
  refine wpAny_bind (wpAny_pure (wpAny_bind (wpAny_pure (wpAny_bind (same_pairs na nb g1 d1 g2 d2 c (fun hs i hi R => find hs _ i hi R) ?_)))))
  refine wpAny_pure ⟨_, rfl, ?_, ?_⟩
  · intro z; cases z
  · simpa using h
theorem dict_new {a b : Addr} {o1 o2 : Obj} {es fs : Array DictEntry} {n1 n2 : Nat} {Q : Value → Shared → Prop} (na : (a == sysModules) = false) (nb : (b == sysModules) = false)
    (g1 : s.heap.get? a = some o1) (x1 : o1.ExactDict) (d1 : o1.data = .dict es n1) (g2 : s.heap.get? b = some o2) (x2 : o2.ExactDict) (d2 : o2.data = .dict fs n2) (c : Nat → Bool) (hu : A.units < cLine)
    (find : es.size = fs.size → ∀ (E : Value → Shared → Prop) i (hi : i < es.size) (R : Option Nat → Shared → Prop), (c i = false → R none s) → (∀ (j : Nat) (hj : j < fs.size), SeqAt.EqAt A.in1 s es[i].val fs[j].val (c i) → R (some j) s) → wpAny (model prog w) A.in1 (dictFind b es[i].key es[i].hash) R E s)
    (h : Q (.bool (!(es.size == fs.size && (List.range es.size).all c))) s) : wpAny (model prog w) A (compareOp .NotEq (.ref a) (.ref b)) Q E s := by
  have t1 : s.TypeIs (.ref a) "dict" := ⟨o1, g1, x1.1⟩
  have t2 : s.TypeIs (.ref b) "dict" := ⟨o2, g2, x2.1⟩
  refine wpAny_richCompare_same_room (op := .NotEq) t1 t2 PySem.F.slot_dict_ne (wpAny_call_entry PySem.F.slot_dict_ne t1 PySem.F.entry_dict_ne ?_ (PySem.F.args_dict_ne_2 _ _)) hu
  show wpAny _ _ (Builtin.Dict.dictSlotArgs "__ne__" ⟨[.ref a, .ref b], []⟩ >>= _) _ _ s
  refine wpAny_bind ?_
  unfold Builtin.Dict.dictSlotArgs
  refine wpAny_bind (wpAny_notOrdered_dict t1 ?_)
  show wpAny _ _ (pure (Value.ref a, Value.ref b)) _ _ s
  refine wpAny_pure (wpAny_bind (wpAny_isInstance (T := "dict") t2 PySem.F.sub_dict_dict ?_))
  simp only [Bool.not_true, Bool.false_eq_true, if_false]
  refine wpAny_bind (wpAny_pure (wpAny_bind (wpAny_pure (wpAny_bind (same_pairs na nb g1 d1 g2 d2 c (fun hs i hi R => find hs _ i hi R) ?_)))))
  refine wpAny_pure ⟨_, rfl, ?_, ?_⟩
  · intro z; cases z
  · simpa using h
end
end IL
namespace IL
open PySem PySem.Spec PyProof.Rows L2 PySem.W
/-! ### dicts of numbers by tuples, compared -/
def isI : D → Bool
  | .int _ => true
  | _ => false
def intsT (es : List (D × D)) : Bool := es.all fun e => (keyT e.1).isSome && isI e.2
def cmpE (fs : List (D × D)) (e : D × D) : Bool := match keyT e.1 with
  | some k => (match valT fs k, e.2 with | some (.int j), .int i => decide (i = j) | _, _ => false)
  | none => false
def gEqDB : D → D → Option Bool
  | .dict es, .dict fs => if intsT es && intsT fs = true then some (es.length == fs.length && es.all (cmpE fs)) else none
  | _, _ => none
def gEqDT (d e : D) : Option D := (gEqDB d e).map .bool
def gNeDT (d e : D) : Option D := (gEqDB d e).map fun b => .bool (!b)
theorem all_range {α : Type} (f : α → Bool) : ∀ l : List α, (List.range l.length).all (fun i => (l[i]?.map f).getD true) = l.all f
  | [] => rfl
  | x :: l => by
    rw [List.length_cons, List.range_succ_eq_map, List.all_cons, List.all_cons, List.all_map, ← all_range f l]
    rfl
theorem valV_at {kvs : List (List Key × V)} (nd : (kvs.map (·.1)).Nodup) {j : Nat} {k : List Key} {v : V} (h : kvs[j]? = some (k, v)) : valV kvs k = some v := by
  induction kvs generalizing j with
  | nil => simp at h
  | cons p kvs ih =>
    rw [List.map_cons, List.nodup_cons] at nd
    cases j with
    | zero =>
      simp at h
      subst h
      show (((k, v) :: kvs).find? fun kv => decide (kv.1 = k)).map (·.2) = _
      rw [List.find?_cons_of_pos (by simp)] <;> rfl
    | succ j =>
      have h' : kvs[j]? = some (k, v) := by simpa using h
      have ne : ¬ p.1 = k := fun z => nd.1 (by rw [z]; exact List.mem_map.mpr ⟨_, List.mem_of_getElem? h', rfl⟩)
      show ((p :: kvs).find? fun kv => decide (kv.1 = k)).map (·.2) = _
      rw [List.find?_cons_of_neg (by simpa using ne)]
      exact ih nd.2 h'
theorem kt_get {H : Hp} : ∀ {kvs : List (List Key × V)} {xs : List (List Key × Addr × Value)} {j : Nat} {k : List Key} {p : Addr × Value}, KT H kvs xs → xs[j]? = some (k, p) → ∃ v, kvs[j]? = some (k, v) ∧ RelV v p.2
  | _, _, _, _, _, .nil, e => by simp at e
  | _, _, 0, k, p, .cons (a := a) (b := b) h t, e => by
    rw [List.getElem?_cons_zero] at e
    cases e
    have h1 : a.1 = k := h.1
    exact ⟨a.2, by rw [List.getElem?_cons_zero, ← h1], h.2.2⟩
  | _, _, j + 1, _, _, .cons h t, e => by
    obtain ⟨v, h1, h2⟩ := kt_get (j := j) t (by simpa using e)
    exact ⟨v, by simpa using h1, h2⟩
theorem kt_keys {H : Hp} : ∀ {kvs : List (List Key × V)} {xs : List (List Key × Addr × Value)}, KT H kvs xs → kvs.map (·.1) = xs.map (·.1)
  | _, _, .nil => rfl
  | _, _, .cons h t => by rw [List.map_cons, List.map_cons, kt_keys t, show _ = _ from h.1]
/-- a dict's datum of numbers by tuples, raw -/
theorem dict_raw {X : Cx} {pins : List (Addr × Obj)} {σ : L2.St} {H : Hp} {s : Shared} (I : Inv X pins σ H s) {x : V} {es : List (D × D)} (r : Rp X.K H x (.dict es)) (hi : intsT es = true) :
    ∃ a kvs xs, x = .ref a ∧ RpT X.K H kvs es ∧ KT H kvs xs ∧ (a == sysModules) = false ∧ s.heap.DictOfH (tupleKind (mixKind X.prog X.w)) a xs := by
  cases r with
  | @dT a kvs _ h rr =>
    obtain ⟨z, lo, xs, rel, dd⟩ := dt_rd I.hok h
    exact ⟨a, kvs, xs, rfl, rr, rel, lo, dd⟩
  | @dK a kvs _ h rr =>
    obtain ⟨z, lo, vs, rel, o, es', ep, g, ex, d, hk, hp, hn⟩ := dk_rd I.hok h
    cases rr with
    | nil =>
      cases rel
      have e0 : es'.toList = [] := List.length_eq_zero_iff.mp hp.length
      exact ⟨a, [], [], rfl, .nil, .nil, lo, o, es', ep, g, ex, d, by rw [e0] <;> rfl, fun x hx => absurd hx (by simp), List.nodup_nil⟩
    | @cons k _ _ _ _ h' r' => cases k <;> cases hi
  | ob => cases hi
theorem eqv_ints (i j : Int) : PyData.eqv (.int i) (.int j) = decide (i = j) := by
  rw [PyData.eqv]
  rfl
def rEqDT (K : PySem.W.Frag) (neg : Bool) : R2 := fun x y H Q => ∃ d e b, Rp K H x d ∧ Rp K H y e ∧ gEqDB d e = some b ∧ Q (.bl (if neg then !b else b)) H
theorem gEqDB_is {d e : D} {b : Bool} (h : gEqDB d e = some b) : ∃ es fs, d = .dict es ∧ e = .dict fs ∧ intsT es = true ∧ intsT fs = true ∧ b = (es.length == fs.length && es.all (cmpE fs)) := by
  unfold gEqDB at h
  split at h
  · split at h
    · rename_i hc
      rw [Bool.and_eq_true] at hc
      cases h
      exact ⟨_, _, rfl, rfl, hc.1, of_decide_eq_true hc.2, rfl⟩
    · cases h
  · cases h
/-- what the look-ups and comparisons answer -/
theorem eqd_find {X : Cx} {pins : List (Addr × Obj)} {σ : L2.St} {H : Hp} {s : Shared} (I : Inv X pins σ H s) {A : Around} (hu : A.units + 32 < cLine) {es fs : List (D × D)} (hi : intsT es = true) (hf : intsT fs = true) {kv1 kv2 : List (List Key × V)} {xs ys : List (List Key × Addr × Value)}
    (r1 : RpT X.K H kv1 es) (t1 : KT H kv1 xs) (r2 : RpT X.K H kv2 fs) (t2 : KT H kv2 ys) {b : Addr} {o : Obj} {A1 A2 : Array DictEntry} {n : Nat} (g : s.heap.get? b = some o) (d : o.data = .dict A2 n) (e1 : A1.toList = xs.map (entryOfKey (tupleKind (mixKind X.prog X.w)))) (e2 : A2.toList = ys.map (entryOfKey (tupleKind (mixKind X.prog X.w))))
    (is1 : ∀ x ∈ xs, (tupleKind (mixKind X.prog X.w)).is s.heap x.1 x.2.1) (is2 : ∀ x ∈ ys, (tupleKind (mixKind X.prog X.w)).is s.heap x.1 x.2.1) (nd : (ys.map (·.1)).Nodup) {E : Value → Shared → Prop} {i : Nat} (hlt : i < A1.size) {R : Option Nat → Shared → Prop}
    (no : (es[i]?.map (cmpE fs)).getD true = false → R none s) (yes : ∀ (j : Nat) (hj : j < A2.size), SeqAt.EqAt A s A1[i].val A2[j].val ((es[i]?.map (cmpE fs)).getD true) → R (some j) s) : wpAny (model X.prog X.w) A (dictFind b A1[i].key A1[i].hash) R E s := by
  have l1 : A1.size = xs.length := by rw [← Array.length_toList, e1, List.length_map]
  have lx : i < xs.length := by omega
  have en : A1[i] = entryOfKey (tupleKind (mixKind X.prog X.w)) xs[i] := by
    have q : A1.toList[i]? = (xs.map (entryOfKey (tupleKind (mixKind X.prog X.w))))[i]? := by rw [e1]
    rw [List.getElem?_map, List.getElem?_eq_getElem lx, Array.getElem?_toList, Array.getElem?_eq_getElem hlt] at q
    exact Option.some.inj q
  rcases hx : xs[i] with ⟨k, p⟩
  have hxi : xs[i]? = some (k, p) := by rw [List.getElem?_eq_getElem lx, hx]
  obtain ⟨v, hv, rv⟩ := kt_get t1 hxi
  obtain ⟨dd, hd, rd⟩ := r1.key hv
  have hdi : isI dd = true := (Bool.and_eq_true_iff.mp (List.all_eq_true.mp hi _ (List.mem_of_getElem? hd))).2
  obtain ⟨z, rfl⟩ : ∃ z, dd = .int z := by cases dd <;> first | exact ⟨_, rfl⟩ | cases hdi
  cases rp_int rd
  obtain ⟨t, ht⟩ := (show ∃ t, p.2 = Value.int z t from rv)
  rw [hd] at no yes
  have hc : ((some ((PyData.tuple (k.map kD), PyData.int z) : D × D)).map (cmpE fs)).getD true = (match valT fs k with | some (.int j) => decide (z = j) | _ => false) := by
    show cmpE fs (.tuple (k.map kD), .int z) = _
    unfold cmpE
    rw [keyT_tuple]
    dsimp only
    cases valT fs k with
    | none => rfl
    | some q => cases q <;> rfl
  rw [hc] at no yes
  rw [en, hx]
  refine wpAny_dictFind_heap (knd := tupleKind (mixKind X.prog X.w)) (a := p.1) (k := k) ?_ (is1 (k, p) (List.mem_of_getElem? hxi)) g d e2 is2 nd (fun hnone => ?_) fun j q hq => ?_
  · show A.units < cLine
    omega
  · have hn : valV kv2 k = none := by
      cases h : valV kv2 k with
      | none => rfl
      | some w =>
        obtain ⟨⟨k', w'⟩, h1, _⟩ := Option.map_eq_some_iff.mp h
        have h2 := List.find?_some h1
        have h3 : k' = k := of_decide_eq_true h2
        subst h3
        have h4 : k' ∈ ys.map (·.1) := by
          rw [← kt_keys t2]
          exact List.mem_map.mpr ⟨_, List.mem_of_find?_eq_some h1, rfl⟩
        obtain ⟨y, h5, h6⟩ := List.mem_map.mp h4
        obtain ⟨j, h7⟩ := List.mem_iff_getElem?.mp h5
        exact absurd (show ys[j]? = some (k', y.2) from by rw [h7, ← h6]) (hnone j y.2)
    have hn2 : valT fs k = none := by
      rcases val_rp (k := k) r2 with ⟨_, h⟩ | ⟨_, _, h, _, _⟩
      · exact h
      · rw [hn] at h; cases h
    exact no (by rw [hn2])
  · have hj : j < A2.size := by
      rw [← Array.length_toList, e2, List.length_map]
      exact (List.getElem?_eq_some_iff.mp hq).1
    obtain ⟨v2, hv2, rv2⟩ := kt_get t2 hq
    have hvv := valV_at (by rw [kt_keys t2]; exact nd) hv2
    obtain ⟨d2, hd2, rd2⟩ := r2.key hv2
    have hdi2 : isI d2 = true := (Bool.and_eq_true_iff.mp (List.all_eq_true.mp hf _ (List.mem_of_getElem? hd2))).2
    obtain ⟨z2, rfl⟩ : ∃ z, d2 = .int z := by cases d2 <;> first | exact ⟨_, rfl⟩ | cases hdi2
    cases rp_int rd2
    obtain ⟨t', ht'⟩ := (show ∃ t, q.2 = Value.int z2 t from rv2)
    have en2 : A2[j] = entryOfKey (tupleKind (mixKind X.prog X.w)) (k, q) := by
      have w : A2.toList[j]? = (ys.map (entryOfKey (tupleKind (mixKind X.prog X.w))))[j]? := by rw [e2]
      rw [List.getElem?_map, hq, Array.getElem?_toList, Array.getElem?_eq_getElem hj] at w
      exact Option.some.inj w
    have hval : valT fs k = some (.int z2) := by
      rcases val_rp (k := k) r2 with ⟨h, _⟩ | ⟨v3, d3, h, h2, h3⟩
      · rw [hvv] at h; cases h
      · rw [hvv] at h
        cases h
        rw [h2]
        cases h3
        rfl
    rw [hval] at yes
    refine yes j hj ?_
    have e4 : A1[i].val = Value.int z t := by rw [en, hx]; exact ht
    have e5 : A2[j].val = Value.int z2 t' := by rw [en2]; exact ht'
    rw [e4, e5]
    have w := eqAt_alike (.int z) (.int z2) A s (.int z t) (.int z2 t') [] [] (.int z t) (.int z2 t') rfl (by show A.units + 0 < cLine; omega)
    rw [eqv_ints] at w
    exact w
end IL
namespace IL
open PySem PySem.Spec PyProof.Rows L2 PySem.W
section
variable {T : Gam} {X : Cx}
theorem eqd_pre {pins : List (Addr × Obj)} {σ : L2.St} {H : Hp} {s : Shared} {x y : V} {v u : Value} {d e : D} {b : Bool} (I : Inv X pins σ H s) (rx : RelV x v) (ry : RelV y u) (h1 : Rp X.K H x d) (h2 : Rp X.K H y e) (hb : gEqDB d e = some b) (hu : X.A.units + 64 < cLine) :
    ∃ p q, v = .ref p ∧ u = .ref q ∧ ((∀ {Q : Value → Shared → Prop}, Q (.bool b) s → wpAny (model X.prog X.w) X.A (compareOp .Eq (.ref p) (.ref q)) Q X.xe s) ∧ ∀ {Q : Value → Shared → Prop}, Q (.bool (!b)) s → wpAny (model X.prog X.w) X.A (compareOp .NotEq (.ref p) (.ref q)) Q X.xe s) := by
  obtain ⟨es, fs, rfl, rfl, hi, hf, rfl⟩ := gEqDB_is hb
  obtain ⟨p, kv1, xs, rfl, r1, t1, lo1, o1, A1, n1, g1, x1, d1, e1, is1, nd1⟩ := dict_raw I h1 hi
  obtain ⟨q, kv2, ys, rfl, r2, t2, lo2, o2, A2, n2, g2, x2, d2, e2, is2, nd2⟩ := dict_raw I h2 hf
  cases rx
  cases ry
  have l1 : A1.size = es.length := by rw [← Array.length_toList, e1, List.length_map, ← t1.length, r1.len]
  have l2 : A2.size = fs.length := by rw [← Array.length_toList, e2, List.length_map, ← t2.length, r2.len]
  have ec : (A1.size == A2.size && (List.range A1.size).all fun i => (es[i]?.map (cmpE fs)).getD true) = (es.length == fs.length && es.all (cmpE fs)) := by
    rw [l1, l2, all_range]
  refine ⟨p, q, rfl, rfl, fun {Q} h => ?_, fun {Q} h => ?_⟩
  · refine dict_eqw lo1 lo2 g1 x1 d1 g2 x2 d2 (fun i => (es[i]?.map (cmpE fs)).getD true) (by omega) (fun _ E i hlt R no yes => eqd_find I (by show X.A.units + 1 + 32 < cLine; omega) hi hf r1 t1 r2 t2 g2 d2 e1 e2 is1 is2 nd2 hlt no yes) ?_
    rw [ec]
    exact h
  · refine dict_new lo1 lo2 g1 x1 d1 g2 x2 d2 (fun i => (es[i]?.map (cmpE fs)).getD true) (by omega) (fun _ E i hlt R no yes => eqd_find I (by show X.A.units + 1 + 32 < cLine; omega) hi hf r1 t1 r2 t2 g2 d2 e1 e2 is1 is2 nd2 hlt no yes) ?_
    rw [ec]
    exact h
theorem op_eqDT (hu : X.A.units + 64 < cLine) : OpR X (compareOp .Eq) (rEqDT X.K false) := by
  intro pins s σ H x y v u Q I rx ry ⟨d, e, b, hx, hy, hb, q⟩
  obtain ⟨p, r, rfl, rfl, h1, _⟩ := eqd_pre I rx ry hx hy hb hu
  exact h1 ⟨.bl _, H, I, rfl, q⟩
theorem op_neDT (hu : X.A.units + 64 < cLine) : OpR X (compareOp .NotEq) (rEqDT X.K true) := by
  intro pins s σ H x y v u Q I rx ry ⟨d, e, b, hx, hy, hb, q⟩
  obtain ⟨p, r, rfl, rfl, _, h1⟩ := eqd_pre I rx ry hx hy hb hu
  exact h1 ⟨.bl _, H, I, rfl, q⟩
theorem imp_eqDT : Imp2 T X.K (rEqDT X.K false) gEqDT := by
  intro S x y d e z H Q lv rx ry g w
  obtain ⟨b, hb, rfl⟩ := Option.map_eq_some_iff.mp g
  exact ⟨d, e, b, unhide rx, unhide ry, hb, w.bl⟩
theorem imp_neDT : Imp2 T X.K (rEqDT X.K true) gNeDT := by
  intro S x y d e z H Q lv rx ry g w
  obtain ⟨b, hb, rfl⟩ := Option.map_eq_some_iff.mp g
  exact ⟨d, e, b, unhide rx, unhide ry, hb, w.bl⟩
end
/-! ### paths in order -/
/-- the order of paths, in plain words -/
def pathLt : List Str → List Str → Bool
  | [], [] => false
  | [], _ :: _ => true
  | _ :: _, [] => false
  | x :: xs, y :: ys => if x.cps.toList = y.cps.toList then pathLt xs ys else decide (x.cps.toList < y.cps.toList)
theorem cps_inj {x y : Str} (h : x.cps.toList = y.cps.toList) : x = y := str_of_cps h
theorem eqv_strs (x y : Str) : PyData.eqv (.str x) (.str y) = decide (x.cps.toList = y.cps.toList) := by
  have e : PyData.eqv (.str x) (.str y) = (x == y) := by rw [PyData.eqv]
  rw [e]
  by_cases h : x = y
  · subst h; simp
  · have h2 : ¬ x.cps.toList = y.cps.toList := fun z => h (cps_inj z)
    rw [decide_eq_false h2]
    exact beq_false_of_ne h
theorem dataLt_path : ∀ k l : List Str, dataLt (pathD k) (pathD l) = pathLt k l := by
  have key : ∀ k l : List Str, PyProof.Rows.lexLt itemOrd (keyToksAll (k.map .str)) (keyToksAll (l.map .str)) = pathLt k l := by
    intro k
    induction k with
    | nil =>
      intro l
      cases l with
      | nil => decide
      | cons y l =>
        rw [List.map_nil, List.map_cons, keyToksAll, keyToksAll]
        rfl
    | cons x k ih =>
      intro l
      cases l with
      | nil =>
        rw [List.map_nil, List.map_cons, keyToksAll, keyToksAll]
        rfl
      | cons y l =>
        rw [List.map_cons, List.map_cons, dataLt_cons (by rw [alike]), eqv_strs, ih, dataLt_str]
        simp only [pathLt, decide_eq_true_eq]
  intro k l
  unfold pathD
  rw [dataLt_tuple, key]
theorem pathLt_irrefl : ∀ k, pathLt k k = false
  | [] => rfl
  | x :: k => by rw [pathLt, if_pos rfl, pathLt_irrefl k]
theorem pathLt_trans : ∀ {a b c}, pathLt a b = true → pathLt b c = true → pathLt a c = true
  | [], [], _, h, _ => by cases h
  | [], _ :: _, [], _, h => by cases h
  | [], _ :: _, _ :: _, _, _ => rfl
  | _ :: _, [], _, h, _ => by cases h
  | _ :: _, _ :: _, [], _, h => by cases h
  | x :: a, y :: b, z :: c, h1, h2 => by
    unfold pathLt at h1 h2 ⊢
    by_cases e1 : x.cps.toList = y.cps.toList
    · rw [if_pos e1] at h1
      by_cases e2 : y.cps.toList = z.cps.toList
      · rw [if_pos e2] at h2
        rw [if_pos (e1.trans e2)]
        exact pathLt_trans h1 h2
      · rw [if_neg e2] at h2
        rw [e1, if_neg e2]
        exact h2
    · rw [if_neg e1] at h1
      by_cases e2 : y.cps.toList = z.cps.toList
      · rw [if_pos e2] at h2
        rw [← e2, if_neg e1]
        exact h1
      · rw [if_neg e2] at h2
        have h3 : x.cps.toList < z.cps.toList := List.lt_trans (of_decide_eq_true h1) (of_decide_eq_true h2)
        rw [if_neg (fun e => by rw [e] at h3; exact List.lt_irrefl _ h3)]
        exact decide_eq_true h3
theorem pathLt_tri : ∀ a b, pathLt a b = true ∨ a = b ∨ pathLt b a = true
  | [], [] => .inr (.inl rfl)
  | [], _ :: _ => .inl rfl
  | _ :: _, [] => .inr (.inr rfl)
  | x :: a, y :: b => by
    unfold pathLt
    by_cases e : x.cps.toList = y.cps.toList
    · rw [if_pos e, if_pos e.symm, cps_inj e]
      rcases pathLt_tri a b with h | h | h
      · exact .inl h
      · exact .inr (.inl (by rw [h]))
      · exact .inr (.inr h)
    · rw [if_neg e, if_neg (Ne.symm e)]
      by_cases h : x.cps.toList < y.cps.toList
      · exact .inl (decide_eq_true h)
      · exact .inr (.inr (decide_eq_true (by
          rcases List.le_iff_lt_or_eq.mp (List.not_lt.mp h) with h2 | h2
          · exact h2
          · exact absurd h2.symm e)))
def pathLe (a b : List Str) : Bool := !pathLt b a
theorem pathLe_trans (a b c : List Str) (h1 : pathLe a b = true) (h2 : pathLe b c = true) : pathLe a c = true := by
  unfold pathLe at *
  simp only [Bool.not_eq_true'] at *
  cases h : pathLt c a with
  | false => rfl
  | true =>
    rcases pathLt_tri a b with h3 | h3 | h3
    · rw [pathLt_trans h h3] at h2; cases h2
    · subst h3; rw [h] at h2; cases h2
    · rw [h3] at h1; cases h1
theorem pathLe_total (a b : List Str) : (pathLe a b || pathLe b a) = true := by
  unfold pathLe
  rcases pathLt_tri a b with h | h | h
  · have h2 : pathLt b a = false := by
      cases e : pathLt b a with
      | false => rfl
      | true => have := pathLt_trans h e; rw [pathLt_irrefl] at this; cases this
    rw [h2]; rfl
  · subst h; rw [pathLt_irrefl]; rfl
  · have h2 : pathLt a b = false := by
      cases e : pathLt a b with
      | false => rfl
      | true => have := pathLt_trans h e; rw [pathLt_irrefl] at this; cases this
    rw [h2]; simp
theorem pathLe_antisymm {a b : List Str} (h1 : pathLe a b = true) (h2 : pathLe b a = true) : a = b := by
  unfold pathLe at *
  simp only [Bool.not_eq_true'] at *
  rcases pathLt_tri a b with h | h | h
  · rw [h] at h2; cases h2
  · exact h
  · rw [h] at h1; cases h1
/-- sorted, by putting in -/
def insP (a : List Str) : List (List Str) → List (List Str)
  | [] => [a]
  | b :: l => if pathLe a b = true then a :: b :: l else b :: insP a l
def sortP : List (List Str) → List (List Str)
  | [] => []
  | a :: l => insP a (sortP l)
theorem insP_perm (a : List Str) : ∀ l, (insP a l).Perm (a :: l)
  | [] => List.Perm.refl _
  | b :: l => by
    unfold insP
    split
    · exact List.Perm.refl _
    · exact ((insP_perm a l).cons b).trans (List.Perm.swap a b l)
theorem sortP_perm : ∀ l, (sortP l).Perm l
  | [] => List.Perm.refl _
  | a :: l => (insP_perm a _).trans ((sortP_perm l).cons a)
theorem insP_sorted (a : List Str) : ∀ {l}, l.Pairwise (fun x y => pathLe x y = true) → (insP a l).Pairwise (fun x y => pathLe x y = true)
  | [], _ => List.pairwise_singleton _ _
  | b :: l, h => by
    unfold insP
    split
    · rename_i hab
      refine List.pairwise_cons.mpr ⟨fun c hc => ?_, h⟩
      rcases List.mem_cons.mp hc with rfl | hc
      · exact hab
      · exact pathLe_trans _ _ _ hab ((List.pairwise_cons.mp h).1 c hc)
    · rename_i hab
      have hba : pathLe b a = true := by
        have := pathLe_total a b
        rw [Bool.or_eq_true] at this
        exact this.resolve_left hab
      refine List.pairwise_cons.mpr ⟨fun c hc => ?_, insP_sorted a (List.pairwise_cons.mp h).2⟩
      rcases List.mem_cons.mp ((insP_perm a l).mem_iff.mp hc) with rfl | hc
      · exact hba
      · exact (List.pairwise_cons.mp h).1 c hc
theorem sortP_sorted : ∀ l, (sortP l).Pairwise (fun x y => pathLe x y = true)
  | [] => List.Pairwise.nil
  | a :: l => insP_sorted a (sortP_sorted l)
theorem sorted_uniq {l m : List (List Str)} (p : l.Perm m) (h1 : l.Pairwise (fun x y => pathLe x y = true)) (h2 : m.Pairwise (fun x y => pathLe x y = true)) : l = m := by
  induction l generalizing m with
  | nil => exact p.nil_eq
  | cons a l ih =>
    cases m with
    | nil => exact absurd p.symm.nil_eq (by simp)
    | cons b m =>
      have ha : a ∈ b :: m := p.mem_iff.mp List.mem_cons_self
      have hb : b ∈ a :: l := p.mem_iff.mpr List.mem_cons_self
      have e : a = b := by
        rcases List.mem_cons.mp ha with e | ha
        · exact e
        rcases List.mem_cons.mp hb with e | hb
        · exact e.symm
        · exact pathLe_antisymm ((List.pairwise_cons.mp h1).1 b hb) ((List.pairwise_cons.mp h2).1 a ha)
      subst e
      rw [ih (List.Perm.cons_inv p) (List.pairwise_cons.mp h1).2 (List.pairwise_cons.mp h2).2]
theorem merge_eq (ks : List (List Str)) : ks.mergeSort (dataLe false pathD) = sortP ks := by
  have e : (dataLe false pathD) = pathLe := by
    funext a b
    rw [dataLe_eq]
    show (!dataLt (pathD b) (pathD a)) = _
    rw [dataLt_path] <;> rfl
  rw [e]
  exact sorted_uniq ((List.mergeSort_perm ks pathLe).trans (sortP_perm ks).symm) (List.pairwise_mergeSort pathLe_trans pathLe_total ks) (sortP_sorted ks)
end IL
namespace IL
open PySem PySem.Spec PyProof.Rows L2 PySem.W
def pathsOf : List (D × D) → Option (List (List Str))
  | [] => some []
  | (.tuple ks, _) :: r => (strL ks).bind fun k => if k.isEmpty = true then none else (pathsOf r).map (k :: ·)
  | _ => none
def gSortT : List D → Option D
  | [.dict es] => (pathsOf es).bind fun ks => if big ks.length = true then some (.list ((sortP ks).map pathD)) else none
  | _ => none
section
variable {T : Gam} {X : Cx}
theorem strL_keys : ∀ {ks : List Key} {k : List Str}, strL (ks.map kD) = some k → ks = k.map Sum.inr
  | [], _, h => by cases h; rfl
  | .inl i :: ks, _, h => by cases h
  | .inr x :: ks, _, h => by
    obtain ⟨k', h1, rfl⟩ := Option.map_eq_some_iff.mp (show (strL (ks.map kD)).map (x :: ·) = some _ from h)
    rw [List.map_cons, strL_keys h1]
theorem paths_rp {K : PySem.W.Frag} {G : Hp} : ∀ {kvs : List (List Key × V)} {es : List (D × D)} {ks : List (List Str)}, RpT K G kvs es → pathsOf es = some ks → kvs.map (·.1) = ks.map (·.map Sum.inr) ∧ ∀ k ∈ ks, k ≠ []
  | _, _, _, .nil, e => by cases e; exact ⟨rfl, fun k h => absurd h (by simp)⟩
  | _, _, _, .cons (k := k) h r, e => by
    obtain ⟨k', h1, h2⟩ := Option.bind_eq_some_iff.mp e
    split at h2
    · cases h2
    · rename_i hk
      obtain ⟨ks, h3, rfl⟩ := Option.map_eq_some_iff.mp h2
      obtain ⟨h4, h5⟩ := paths_rp r h3
      refine ⟨by rw [List.map_cons, List.map_cons, h4, strL_keys h1], fun z hz => ?_⟩
      rcases List.mem_cons.mp hz with rfl | hz
      · intro e; subst e; exact hk rfl
      · exact h5 z hz
theorem each_rp {K : PySem.W.Frag} {S : List Addr} {H H' : Hp} (lv : Live T S H) (l : RdLe (hide S H) (hide S H')) {out : List V} {ks : List (List Str)} (e : EachIs (fun v k => ∃ q, v = V.ref q ∧ H q = some (.tup (k.map V.str))) out ks) : RpAll K (hide S H') out (ks.map pathD) := by
  induction e with
  | nil => exact .nil
  | @cons v k _ _ h _ ih =>
    obtain ⟨q, rfl, hq⟩ := h
    exact .cons (.tup (l.tp _ _ rfl ((hide_in (lv.tup hq)).trans hq)) (strAll_of k)) ih
theorem imp_sortT : ImpN T X.K (fun xs H Q => rSortedDT xs H Q ∨ ∃ (a : Addr) (kvs : List (Key × V)) (ks : List Str), xs = [.ref a] ∧ Rd H a (.dK kvs) ∧ kvs.map (·.1) = ks.map Sum.inr ∧ ks.length < 64 ∧ ∀ ys p, ys.Perm ks → sortedS ys = true → H p = none → Q (.ref p) (upd H p (.lst (ys.map V.str)))) gSortT := by
  intro S xs ds z H Q lv r g w
  unfold gSortT at g
  split at g
  · rename_i es
    obtain ⟨ks, hk, g⟩ := Option.bind_eq_some_iff.mp g
    split at g
    · rename_i hb
      cases g
      cases r with
      | cons h r =>
        cases r
        cases h with
        | @dT a kvs _ h rr =>
          obtain ⟨h1, h2⟩ := paths_rp rr hk
          refine .inl ⟨a, kvs, ks, rfl, rd_hide h, h1, h2, fun out p he hp => ?_⟩
          rw [merge_eq] at he
          have hp' : p ∉ S := lv.no hp
          exact w _ _ (.new hp) (.lst (.inl (.inl ((hide_in hp').trans upd_same))) (each_rp lv (Pe.rd (T := T) (.new hp)) he))
        | @dK a kvs _ h rr =>
          cases rr with
          | nil =>
            cases hk
            refine .inr ⟨a, [], [], rfl, rd_hide h, rfl, by decide, fun ys p hp _ hn => ?_⟩
            rw [hp.eq_nil]
            have hp' : p ∉ S := lv.no hn
            exact w _ _ (.new hn) (.lst (.inl (.inl ((hide_in hp').trans upd_same))) .nil)
          | @cons k _ _ _ _ h' r' => cases k <;> cases hk
        | ob => cases hk
    · cases g
  · cases g
theorem cr_sortT (hc : X.calm = true) (hu : X.A.units + 64 < cLine) : CallR X (.builtin "sorted") (fun xs H Q => rSortedDT xs H Q ∨ ∃ (a : Addr) (kvs : List (Key × V)) (ks : List Str), xs = [.ref a] ∧ Rd H a (.dK kvs) ∧ kvs.map (·.1) = ks.map Sum.inr ∧ ks.length < 64 ∧ ∀ ys p, ys.Perm ks → sortedS ys = true → H p = none → Q (.ref p) (upd H p (.lst (ys.map V.str)))) := CallR.or (call_sortedDT hc hu) (call_sortedD hc)
end
/-! ### a comprehension over a name's dict -/
def mCompD (k j : Nat) (c : Env → Res Bool) (f : Ev) : Ev := fun env => match env[k]? with
  | some (some (.dict es)) => if isOb (.dict es) = true then .stuck else if big es.length = true then noExc ((compLoop j c f (env.set j none) (es.map (·.1))).bind fun ys => .ok (.list ys)) else .stuck
  | _ => .stuck
section
variable {T : Gam} {ca : XC → Addr} {X : Cx} {W : WX} {elt : Expr} {pos : Pos} {mf : Ev} {mc : Env → Res Bool}
theorem pe_or2 {e : Expr} {t t' : TE} (h : PE X e t) (h' : PE X e t') : PE X e (fun σ H Q => t σ H Q ∨ t' σ H Q) := ⟨fun pins s σ H Q I q => q.elim (h.run pins s σ H Q I) (h'.run pins s σ H Q I)⟩
theorem fin_of_no {α β : Type} {R : Hp → β → α → Prop} {σ : L2.St} {H : Hp} {r : Res α} {Q : β → Hp → Prop} (f : Fin T ca R W σ H (noExc r) Q) : Fin T ca R W σ H r Q := by
  cases r with
  | ok a => exact f
  | exc c => exact f.elim
  | stuck => exact f
theorem ie_compD {k j : Nat} {x y : Str} {px py : Pos} {scope : Scope} {ifs : List Expr} (hN : X.N.Nodup) (ok : blkC X.N X.env.scope scope [(x, j)] = true)
    (hg : ∀ (s : Shared) (H : Hp) (C : Addr) (cl : List (Str × Addr)) (fp : List Addr), PG (X.blk s H scope (compEnvC scope cl C X.env) fp) (.Name x px) (gName j))
    (ht : ∀ (s : Shared) (H : Hp) (C : Addr) (cl : List (Str × Addr)) (fp : List Addr), ITs T ca (X.blk s H scope (compEnvC scope cl C X.env) fp) W0 ifs mc)
    (he : ∀ (s : Shared) (H : Hp) (C : Addr) (cl : List (Str × Addr)) (fp : List Addr), IE T ca (X.blk s H scope (compEnvC scope cl C X.env) fp) W0 elt mf)
    (hky : X.N[k]? = some y := by rfl) (hvy : Vis X.env.scope y := by first | exact Or.inl rfl | exact Or.inr (Or.inl rfl) | exact Or.inr (Or.inr rfl)) (hd : (y == ("__debug__" : Str)) = false := by decide) (hcd : (y == ("__classdict__" : Str)) = false := by decide) (hc : X.calm = true := by rfl) (hs : ∀ z, foldedSetIterable (.Name y py) X.env z = pure z := by intro _; rfl) :
    IE T ca X W (.ListComp elt [⟨.Name x px, .Name y py, ifs, 0⟩] scope pos) (mCompD k j mc mf) := by
  have P := pe_lc (own := [(x, j)]) (pos := pos) (elt := elt) (ifs := ifs) (te := tI T ca X.K W0 mf) (tt := tIT T ca X.K W0 mc) hc hN (pi_keys (tg := .Name x px) (pe_var (pos := py) hky hvy hd hcd)) (blkOk_by ok) hg (fun s H C cl fp => (ht s H C cl fp).pts) (fun s H C cl fp => (he s H C cl fp).pe) hs
  refine ⟨pe_imp (pe_or2 (pe_lock P) P) fun σ H Q ⟨S, env, lv, rel, fin⟩ => ?_⟩
  unfold mCompD at fin
  split at fin
  · rename_i es hes
    split at fin
    · exact fin.elim
    rename_i no
    split at fin
    · rename_i hb
      obtain ⟨v, hv, rv⟩ := rel.at_ k _ hes
      obtain ⟨d, rfl, hdS, hdd⟩ := dict_rp rv (by simpa using no)
      have hbl : ∀ {n : Nat}, n = es.length → big n = true := fun e => by rw [e]; exact hb
      have hm : (es.map (·.1)).length = es.length := List.length_map ..
      -- the locked heap
      have locked : ∀ {u : HO} {o : Obj} {J : It}, H d = some u → isDat u = true → (∀ xs, u ≠ .tup xs) → Mut (some u) → Walks X.K S J (upd H d (.frz o u)) (es.map (·.1)) → ∀ p, (upd H d (.frz o u)) p = none →
          ∃ V : Nat → Nat → Hp → Prop, (∃ m, V 0 m (upd (upd H d (.frz o u)) p (.lst []))) ∧ ∀ i m G, V i m G → (J.stop i G ∧ (G d = some (.frz o u) ∧ Q (.ref p) (upd G d u))) ∨ (J.go i G ∧ ∃ Nx : Hp → Prop, (∀ H', Nx H' → ∃ m', m' < m ∧ V (i + 1) m' H') ∧ ∀ x H', J.yld i G x H' → gName j x (L2.wipe σ [j]) H' fun σ2 H2 => L2.wipe σ2 [j] = L2.wipe σ [j] ∧ tIT T ca X.K W0 mc σ2 H2 fun b H3 =>
            if b = true then tI T ca X.K W0 mf σ2 H3 fun y H4 => ∃ acc, H4 p = some (.lst acc) ∧ acc.length < sizeLine ∧ Nx (upd H4 p (.lst (acc ++ [y]))) else Nx H3) := fun {u o J} hu du nt mu w p hp => by
        have ll : RdLe (hide S H) (hide S (upd H d (.frz o u))) := lock_rd hu du nt
        have lvl : Live T S (upd H d (.frz o u)) := ⟨fun a ha => by
          by_cases q : a = d
          · exact ⟨_, by rw [q]; exact upd_same, rfl⟩
          · rw [upd_ne q]
            exact lv.own a ha, lv.tb.upd hu (isTbl_of_rd du) (fix_of_rd du nt)⟩
        have rell : RelE X.K (hide S (upd H d (.frz o u))) env σ := ⟨rel.len, fun i d e => let ⟨v, h1, h2⟩ := rel.at_ i d e; ⟨v, h1, h2.le ll⟩⟩
        refine comp_run (T := T) (ca := ca) (X := X) (W := W) (H0 := H) (Q := fun v G => G d = some (.frz o u) ∧ Q v (upd G d u)) lvl rell.wipe w (hbl hm) hp ?_
        generalize (compLoop j mc mf (env.set j none) (es.map (·.1))).bind (fun ys => (.ok (.list ys) : Res D)) = r at fin ⊢
        cases r with
        | ok a =>
          intro b H' p' rb
          obtain ⟨h1, h2⟩ := Pe.lock hu du nt p'
          exact ⟨h1, fin b _ h2 (Rp.le (unlock_rd h1) rb)⟩
        | exc c => exact fin.elim
        | stuck => exact fin.elim
      rcases hdd with ⟨kvs, r1 | ⟨o1, r1⟩, r2⟩ | ⟨kvs, r1 | ⟨o1, r1⟩, r2⟩
      · exact .inl ⟨d, _, r1, True.intro, fun od => ⟨_, hv, d, od, rfl, .inr ⟨kvs, upd_same, fun p hp => locked r1 rfl (fun xs z => by cases z) True.intro (walks_T hdS upd_same r2) p hp⟩⟩⟩
      · exact .inr ⟨_, hv, d, o1, rfl, .inr ⟨kvs, r1, fun p hp => comp_run (T := T) (ca := ca) (X := X) (W := W) (H0 := H) lv rel.wipe (walks_T hdS r1 r2) (hbl hm) hp (fin_of_no fin)⟩⟩
      · exact .inl ⟨d, _, r1, True.intro, fun od => ⟨_, hv, d, od, rfl, .inl ⟨kvs, upd_same, fun p hp => locked r1 rfl (fun xs z => by cases z) True.intro (walks_K hdS upd_same r2) p hp⟩⟩⟩
      · exact .inr ⟨_, hv, d, o1, rfl, .inl ⟨kvs, r1, fun p hp => comp_run (T := T) (ca := ca) (X := X) (W := W) (H0 := H) lv rel.wipe (walks_K hdS r1 r2) (hbl hm) hp (fin_of_no fin)⟩⟩
    · exact fin.elim
  · exact fin.elim
end
end IL
namespace IL
open PySem PySem.Spec PyProof.Rows L2
/-! ### what is handled may have a context, whose own is None -/
def cNo (o : Obj) : Prop := ∃ ws : Array Value, o.data = .fields ws ∧ ws[2]? = some .none
/-- z's context is None, or that of tl, whose own is None -/
def Ch (z : Addr × Obj) (tl : List (Addr × Obj)) : Prop :=
  (tl = [] ∧ cNo z.2) ∨ ∃ y vs, tl = [y] ∧ z.2.data = .fields vs ∧ vs[2]? = some (.ref y.1) ∧ cNo y.2 ∧ y.1 ≠ z.1
structure HotG (A : Around) (z : Addr × Obj) (tl : List (Addr × Obj)) : Prop where
  hd : A.handled = some (.ref z.1)
  ch : Ch z tl
def ChAt (ps : List (Addr × Obj)) (h : Heap) : Prop := ∀ y ∈ ps, h.get? y.1 = some y.2
section
variable {prog : Program} {w : World} {A : Around} {E : Value → Shared → Prop} {s : Shared}
theorem unchainG {z : Addr × Obj} {tl : List (Addr × Obj)} {a : Addr} {Q : Value → Shared → Prop} (c : Ch z tl) (h : ChAt (z :: tl) s.heap) (hne : ∀ y ∈ z :: tl, y.1 ≠ a) (k : Q .none s) :
    wpAny (model prog w) A (holding [Value.ref a] (runValue (.builtin "proto.unchain" ⟨[.ref a, .ref z.1, .ref z.1, .bool false], []⟩))) Q E s := by
  have g1 := h z List.mem_cons_self
  refine wpAny_holding (wpAny_runValue (codeAny_builtin HotX.entry_unchain ?_))
  show wpAny _ _ (field (.ref z.1) 2 >>= _) _ _ s
  rcases c with ⟨rfl, ws, d1, c1⟩ | ⟨y, vs, rfl, d1, c1, ⟨ws, d2, c2⟩, n⟩
  · refine wpAny_bind (wpAny_field g1 d1 c1 ?_)
    rw [if_pos (show (Value.none == Value.none) = true from rfl)]
    first
    | exact wpAny_pure k
    | exact wpAny_bind (wpAny_pure (wpAny_pure k))
  · refine wpAny_bind (wpAny_field g1 d1 c1 ?_)
    have n1 : ¬ ((Value.ref y.1 == Value.none) = true) := by simp
    have n2 : ¬ ((Value.ref y.1 == Value.ref a) = true) := by
      have := hne y (by simp)
      simpa using this
    have n3 : ¬ ((Value.ref y.1 == Value.ref z.1) = true) := by simpa using n
    rw [if_neg n1]
    show wpAny _ _ (if (Value.ref y.1 == Value.ref a) = true then _ else _) _ _ s
    rw [if_neg n2]
    show wpAny _ _ (if (Value.ref y.1 == Value.ref z.1) = true then _ else _) _ _ s
    rw [if_neg n3]
    refine wpAny_bind (wpAny_pure ?_)
    refine wpAny_pure ⟨by first | rfl | decide +kernel | kernel_rfl, codeAny_builtin HotX.entry_unchain ?_⟩
    show wpAny _ _ (field (.ref y.1) 2 >>= _) _ _ s
    refine wpAny_bind (wpAny_field (h y (by simp)) d2 c2 ?_)
    rw [if_pos (show (Value.none == Value.none) = true from rfl)]
    first
    | exact wpAny_pure k
    | exact wpAny_bind (wpAny_pure (wpAny_pure k))
theorem raiseNew_g {α : Type} {a : Addr} {oe : Obj} {vs : Array Value} {z : Addr × Obj} {tl : List (Addr × Obj)} {Q : α → Shared → Prop} (hot : HotG A z tl) (hc : ChAt (z :: tl) s.heap) (hne : ∀ y ∈ z :: tl, y.1 ≠ a) (ha : s.heap.get? a = some oe) (da : oe.data = .fields vs) (hi : 2 < vs.size)
    (hE : E (.ref a) { s with heap := s.heap.update a (Obj.mapFields (·.setIfInBounds 2 (.ref z.1))) }) : wpAny (model prog w) A (raiseNew (.ref a) : Sem α) Q E s := by
  unfold raiseNew
  refine wpAny_bind (wpAny_handled ?_)
  rw [hot.hd]
  have hb : (Value.ref z.1 != Value.ref a) = true := HotX.ref_bne (hne z List.mem_cons_self)
  first
  | (show wpAny _ _ (if (Value.ref z.1 != Value.ref a) = true then _ else _) _ _ _
     rw [if_pos hb]
     first
     | exact wpAny_bind (unchainG hot.ch hc hne (wpAny_bind (HotX.chained ha da hi (wpAny_throw hE))))
     | exact wpAny_bind (wpAny_bind (unchainG hot.ch hc hne (HotX.chained ha da hi (wpAny_throw hE)))))
  | (refine wpAny_bind ?_
     show wpAny _ _ (if (Value.ref z.1 != Value.ref a) = true then _ else _) _ _ _
     rw [if_pos hb]
     exact wpAny_bind (unchainG hot.ch hc hne (HotX.chained ha da hi (wpAny_throw hE))))
theorem list_endG {it l : Addr} {i : Nat} {items : Array Value} {z : Addr × Obj} {tl : List (Addr × Obj)} {Q : Option Value → Shared → Prop} (hot : HotG A z tl) (hc : ChAt (z :: tl) s.heap) (hit : s.heap.IsListIter it l i) (hl : s.heap.IsList l items) (hx : items[i]? = none) (ne : ∀ y ∈ z :: tl, y.1 ≠ it)
    (hQ : ∀ h', Heap.ExtBut it s.heap h' → Q none { s with heap := h' }) : wpAny (model prog w) A (pyNext (.ref it)) Q E s := by
  obtain ⟨ob, hob, hcl, hdt⟩ := id hit
  obtain ⟨ol, hol, _, nl, hdl⟩ := hl
  unfold pyNext
  refine wpAny_bind (wpAny_attempt (wpAny_callSpecial?_slot (name := Str.ofString "__next__") hit.typeIs slot_listiter_next (wpAny_call_entry slot_listiter_next hit.typeIs entry_listiter_next ?_ (args_listiter_next _))))
  show wpAny _ _ (field (.ref it) 0 >>= _) _ _ s
  refine wpAny_bind (wpAny_field hob hdt (x := .ref l) rfl ?_)
  show wpAny _ _ (if (Value.ref l == Value.none) = true then _ else _) _ _ s
  rw [if_neg (by exact Bool.false_ne_true : ¬ ((Value.ref l == Value.none) = true))]
  show wpAny _ _ (field (.ref it) 1 >>= _) _ _ s
  refine wpAny_bind (wpAny_field hob hdt (x := .int i 0) rfl ?_)
  show wpAny _ _ (seqItems? (.ref l) >>= _) _ _ s
  refine wpAny_bind (wpAny_seqItems hol hdl ?_)
  simp only [Int.toNat_natCast, hx]
  have g2 : ∀ f, ChAt (z :: tl) (s.heap.update it f) := fun f y hy => (Heap.get?_update_other _ _ (fun e => ne y hy e.symm)).trans (hc y hy)
  refine wpAny_bind (wpAny_rule (wpAny_bind (wpAny_setField hob hdt (by simp) ?_)))
  show wpAny _ _ (newExc (.type "StopIteration") [] >>= _) _ _ _
  refine wpAny_bind ?_
  simp only [newExc, newTuple]
  refine wpAny_bind (wpAny_newObj_type ?_ (by size_fits))
  refine wpAny_bind (m := firstArgMember _ _) (wpAny_of_eq (a := Value.none) (by first | rfl | (simp only [firstArgMember]; rfl)) ?_)
  refine wpAny_newObj_type ?_ (by size_fits)
  refine raiseNew_g (z := z) (tl := tl) ⟨hot.hd, hot.ch⟩ (fun y hy => Heap.get?_push_of_some _ (Heap.get?_push_of_some _ (g2 _ y hy))) (fun y hy => Nat.ne_of_lt (Heap.lt_size (Heap.get?_push_of_some _ (g2 _ y hy)))) (Heap.get?_push_size _ rfl) rfl (by first | (simp; done) | (simp; omega) | (simp only [Array.size_append]; simp; omega)) ?_
  refine wpAny_bind (wpAny_isInstance (T := "StopIteration") (b := true) ⟨_, Heap.get?_update_self _ (Heap.get?_push_size _ rfl) rfl, rfl⟩ isSubtype_stop ?_)
  refine wpAny_pure (hQ _ fun b o hb e => ?_)
  rw [Heap.get?_update_other _ _ (Nat.ne_of_gt (Heap.lt_size (Heap.get?_push_of_some _ ((Heap.SameBut.update ..).extBut b o hb e))))]
  exact Heap.get?_push_of_some _ (Heap.get?_push_of_some _ ((Heap.SameBut.update ..).extBut b o hb e))
end
/-- the context bears the handled exception, and its context -/
def HotCG (X : Cx) : Prop := ∃ z tl, HotG X.A z tl ∧ ∀ y ∈ z :: tl, y ∈ X.pn
/-! ### walking a list there -/
structure TurnG (P : Program) (w : World) (K : PySem.W.Frag) (tg : Expr) (J : It) (fp : List Addr) (it : Addr) (tn : Nat → Heap → Prop) : Prop where
  obj : ∀ i h, tn i h → ∀ b ∈ fp, ∃ o, h.get? b = some o ∧ ∀ v, o.data ≠ .cell v
  keep : ∀ i h h', tn i h → (∀ b ∈ fp, ∀ o, h.get? b = some o → h'.get? b = some o) → tn i h'
  item : ∀ (X : Cx), X.prog = P → X.w = w → X.K = K → HotCG X → ∀ (i : Nat) (pins : List (Addr × Obj)) (s : Shared) (σ : St) (H : Hp) (E : Value → Shared → Prop), Inv X pins σ H s → (∀ b ∈ fp, FpOk X pins H b) → tn i s.heap → J.go i H →
    wpAny (model P w) X.A (pyNext (.ref it)) (fun v s1 => ∃ u, v = some u ∧
      wpAny (model P w) X.A (letOwnedTupleGo tg (.ref it) u) (fun _ s2 => ∃ x H', Inv X pins σ H' s2 ∧ RelV x u ∧ J.yld i H x H' ∧ tn (i + 1) s2.heap ∧ ∀ b ∈ fp, H' b = none) E s1) E s
  done : ∀ (X : Cx), X.prog = P → X.w = w → X.K = K → HotCG X → ∀ (i : Nat) (pins : List (Addr × Obj)) (s : Shared) (σ : St) (H : Hp) (E : Value → Shared → Prop), Inv X pins σ H s → (∀ b ∈ fp, FpOk X pins H b) → tn i s.heap → J.stop i H →
    wpAny (model P w) X.A (pyNext (.ref it)) (fun v s1 => v = none ∧ Inv X pins σ H s1) E s
  self : ∀ (A : Around) (i : Nat) (s : Shared) (Q : Value → Shared → Prop) (E : Value → Shared → Prop), tn i s.heap → Q (.ref it) s → wpAny (model P w) A (pyIter (.ref it)) Q E s
theorem turn_listG {P : Program} {w : World} {K : PySem.W.Frag} {tg : Expr} (a it : Addr) : TurnG P w K tg (Itl K a) [it] it (fun i h => h.IsListIter it a i) where
  obj := fun i h st b hb => by
    obtain rfl : b = it := by simpa using hb
    obtain ⟨o, e, c, d⟩ := st
    exact ⟨o, e, fun v z => by rw [d] at z; cases z⟩
  keep := fun i h h' st k => st.at fun o e => k it (by simp) o e
  item := by
    rintro X rfl rfl rfl hc i pins s σ H E J hf st ⟨xs, x, hq, hx⟩
    obtain ⟨its, rv, p, hz⟩ := J.list hq
    obtain ⟨u, hu, ru⟩ := rv.get hx
    obtain ⟨f0, f1, f2, f3, f4, f5⟩ := hf it (by simp)
    refine wpAny_pyNext_list_item st p.isList (x := u) (by simpa using hu) fun h' st' sb => ?_
    have J1 : Inv X pins σ H { s with heap := h' } := J.turned (t' := s.toks) (fun b o hb e => (sb.2 b hb).trans e) f0 f1 f3 f4 f5
    obtain ⟨o, e, c, d⟩ := id st'
    exact ⟨u, rfl, go_of (s := { s with heap := h' }) e c d (by decide) ⟨x, H, J1, ru, ⟨rfl, fun ys hy => by rw [J.list_inj hy hq]; exact hx⟩, st', fun b hb => (hf b hb).1⟩⟩
  done := by
    rintro X rfl rfl rfl hc i pins s σ H E J hf st ⟨xs, hq, hx⟩
    obtain ⟨its, rv, p, hz⟩ := J.list hq
    obtain ⟨f0, f1, f2, f3, f4, f5⟩ := hf it (by simp)
    have hl := rv.length
    obtain ⟨z, tl, hot, hy⟩ := hc
    exact list_endG hot (fun y h => (J.pin y (List.mem_append_left _ (hy y h))).1) st p.isList (by simp; omega) (fun y h => f5 y (List.mem_append_left _ (hy y h))) fun h' eb => ⟨rfl, J.turned (t' := s.toks) (fun b o hb e => eb b o hb e) f0 f1 f3 f4 f5⟩
  self := fun _ _ _ _ _ st h => wpAny_pyIter_listiter st h
def PIEG (X : Cx) (pins : List (Addr × Obj)) (σ : St) (tg : Expr) (R : It → Hp → Prop) (itv : Value) (s2 : Shared) : Prop :=
  ∃ (it : Addr) (fp : List Addr) (tn : Nat → Heap → Prop) (J : It) (H' : Hp), itv = .ref it ∧ Inv X pins σ H' s2 ∧ TurnG X.prog X.w X.K tg J fp it tn ∧ tn 0 s2.heap ∧ (∀ b ∈ fp, FpOk X pins H' b) ∧ R J H'
structure PIG (X : Cx) (tg iter : Expr) (wi : TI) : Prop where
  run : ∀ (pins : List (Addr × Obj)) (s : Shared) (σ : St) (H : Hp) (R : It → Hp → Prop), Inv X pins σ H s → wi σ H R →
    wpAny (model X.prog X.w) X.A (eval iter X.env) (fun v s1 => wpAny (model X.prog X.w) X.A (pyIter v) (PIEG X pins σ tg R) X.xe s1) X.xe s
section
variable {X : Cx}
theorem pi_listG {tg l : Expr} {tl : TE} (hl : PE X l tl) : PIG X tg l (iList X.K tl) := by
  refine ⟨fun pins s σ H R J h => ?_⟩
  refine thn (hl.run pins s σ H _ J h) fun v s1 ⟨x, H1, J1, r1, a, e, ⟨xs, hq⟩, q⟩ => ?_
  subst e
  cases r1
  obtain ⟨its, rv, p, hz⟩ := J1.list hq
  refine wpAny_pyIter_list p.isList ⟨s1.heap.objs.size, [s1.heap.objs.size], _, _, H1, rfl, J1.kept (t' := s1.toks) fun b o e => Heap.get?_push_of_some _ e, turn_listG a _, ⟨_, Heap.get?_push_size _ rfl, rfl, rfl⟩, fun b hb => ?_, q⟩
  obtain rfl : b = s1.heap.objs.size := by simpa using hb
  exact J1.fpOk (Nat.le_refl _) (J1.hok.fresh (Nat.le_refl _))
end
end IL
namespace IL
open PySem PySem.Spec PyProof.Rows L2
section
variable {X : Cx}
theorem lcG {pins : List (Addr × Obj)} {s : Shared} {σ : St} {H : Hp} {Q : VK} {elt tg iter : Expr} {ifs : List Expr} {scope : Scope} {own : List (Str × Nat)} {pos pos' : Pos} {wi : TI} {g : TG} {tt : TT} {te : TE} {use : Option (Value → Sem Unit)} {Qf : Value → Shared → Prop}
    {p : Addr × Obj} {tl : List (Addr × Obj)} (hp : ∀ y ∈ p :: tl, y ∈ X.pn) (hot : HotG X.A p tl) (hN : X.N.Nodup) (Y : Inv X pins σ H s) (hi : PIG X tg iter wi) (ok : BlkOk X.N X.env.scope scope own)
    (hg : ∀ (s : Shared) (H : Hp) (C : Addr) (cl : List (Str × Addr)) (fp : List Addr), PG (X.blk s H scope (compEnvC scope cl C X.env) fp) tg g) (ht : ∀ (s : Shared) (H : Hp) (C : Addr) (cl : List (Str × Addr)) (fp : List Addr), PTs (X.blk s H scope (compEnvC scope cl C X.env) fp) ifs tt)
    (he : ∀ (s : Shared) (H : Hp) (C : Addr) (cl : List (Str × Addr)) (fp : List Addr), PE (X.blk s H scope (compEnvC scope cl C X.env) fp) elt te) (hs : ∀ x, foldedSetIterable iter X.env x = pure x)
    (h : tLc wi g tt te (own.map (·.2)) σ H Q)
    (fin_ : ∀ D C s' m H', Inv X pins σ H' s' → Q (.ref D) H' → s'.heap.Ns C m → FpOk X pins H' C → compPost (model X.prog X.w) X.A X.xe use Qf (.ref D) C (.ok .next) s') :
    wpAny (model X.prog X.w) X.A (comprehension (.ListComp elt [⟨tg, iter, ifs, 0⟩] scope pos) scope X.env pos' (newList []) false (eval iter X.env) use) Qf X.xe s := by
  have frs_ : ∀ y ∈ scope.names, y.2 = .free → ∃ c, X.env.cells.lookup y.1 = some c := fun y hy e => by
    rcases ok.free y hy e with k | k
    · exact Y.ok.has _ (.inl k)
    · exact Y.ok.has _ (.inr k)
  refine wpAny_comprehension_free (use := use) rfl hs (closure_ok frs_) ok.kind (fun y hy e => by rw [ok.uniq y hy, e])
    (thn (hi.run pins s σ H _ Y h) fun xv u1 hx => thn hx fun itv u2 h2 => ?_)
  obtain ⟨it, fp, tn, J, G2, e, Y2, T, tn2, o2, q⟩ := h2
  subst e
  refine wpAny_newObj_type (newEnv_comp ?_) (by show 0 ≤ sizeLine; decide)
  generalize eD : u2.heap.objs.size = D
  have nD : G2 D = none := Y2.hok.fresh (Nat.le_of_eq eD)
  obtain ⟨W, ⟨k0, v0⟩, trn⟩ := q D nD
  -- the new list
  generalize eS3 : ({ u2 with heap := u2.heap.push { cls := .type "list", data := .seq ([] : List Value).toArray } } : Shared) = u3
  have Y3 : Inv X pins σ (upd G2 D (.lst [])) u3 := by
    rw [← eS3]
    refine Y2.laid (t' := u2.toks) (fun b o e => Heap.get?_push_of_some _ e) (Nat.le_of_eq eD) ⟨Nat.zero_le _, [], 0, .nil, ?_⟩
    rw [← eD]
    exact Heap.get?_push_size _ rfl
  have h3 : u3.heap = u2.heap.push { cls := .type "list", data := .seq ([] : List Value).toArray } := by rw [← eS3]
  have sz : ∀ b ∈ fp, b < u2.heap.objs.size := fun b hb => by
    obtain ⟨o, e, _⟩ := T.obj _ _ tn2 b hb
    exact Heap.lt_size e
  have o3 : ∀ b ∈ fp, FpOk X pins (upd G2 D (.lst [])) b ∧ b < u3.heap.objs.size := fun b hb => by
    have hlt := sz b hb
    refine ⟨⟨?_, (o2 b hb).2⟩, by rw [h3, Heap.size_push]; exact Nat.lt_succ_of_lt hlt⟩
    rw [upd_ne (by rw [← eD]; exact Nat.ne_of_lt hlt)]
    exact (o2 b hb).1
  have tn3 : tn 0 u3.heap := T.keep _ _ _ tn2 fun b _ o e => by rw [h3]; exact Heap.get?_push_of_some _ e
  have Y4 := (block_start Y3 ok hN o3).pins_of (pins' := p :: tl) fun z hz => by
    obtain ⟨b1, b2, b3, b4, b5⟩ := Y3.pin z (List.mem_append_left _ (hp z hz))
    have lt3 := Heap.lt_size b1
    refine ⟨pushCells_keeps _ _ _ _ (Heap.get?_push_of_some _ b1), b2, Nat.ne_of_lt lt3, fun hm => ?_, b5⟩
    rcases List.mem_cons.mp (Y3.stkSub _ hm) with e | e
    · exact b3 e
    · exact b4 e
  have pg := hg u3 (upd G2 D (.lst [])) u3.heap.objs.size (cellsFrom (u3.heap.objs.size + 1) scope.names (cloFrom X.env.cells scope.names [])) fp
  have pt := ht u3 (upd G2 D (.lst [])) u3.heap.objs.size (cellsFrom (u3.heap.objs.size + 1) scope.names (cloFrom X.env.cells scope.names [])) fp
  have pe := he u3 (upd G2 D (.lst [])) u3.heap.objs.size (cellsFrom (u3.heap.objs.size + 1) scope.names (cloFrom X.env.cells scope.names [])) fp
  show codeAny _ _ (.compStart (.ListComp elt [⟨tg, iter, ifs, 0⟩] scope pos) 0 (.ref it) (.ref D) (compEnvC scope (cellsFrom (u3.heap.objs.size + 1) scope.names (cloFrom X.env.cells scope.names [])) u3.heap.objs.size X.env)) (compPost (model X.prog X.w) X.A X.xe use Qf (.ref D) u3.heap.objs.size) { u3 with heap := pushCells (u3.heap.push { cls := .type "dict", data := .dict #[] }) scope.names }
  have fpn : ∀ b ∈ fp, (upd G2 D (.lst [])) b = none := fun b hb => (o3 b hb).1.1
  generalize eCe : compEnvC scope (cellsFrom (u3.heap.objs.size + 1) scope.names (cloFrom X.env.cells scope.names [])) u3.heap.objs.size X.env = ce at Y4 pg pt pe ⊢
  have cL : ce.locals = u3.heap.objs.size := by subst eCe; rfl
  generalize eH3 : upd G2 D (.lst []) = G3 at Y3 Y4 pg pt pe v0 fpn o3
  generalize eS4 : ({ u3 with heap := pushCells (u3.heap.push { cls := .type "dict", data := .dict #[] }) scope.names } : Shared) = u4 at Y4 ⊢
  have tn4 : tn 0 u4.heap := T.keep _ _ _ tn3 fun b _ o e => by rw [← eS4]; exact pushCells_keeps _ _ _ _ (Heap.get?_push_of_some _ e)
  have sta : ∀ {σ' : St} {H' : Hp} {s' : Shared}, Inv (X.blk u3 G3 scope ce fp) (p :: tl) σ' H' s' → (∀ b ∈ fp, H' b = none) → ∀ b ∈ fp, FpOk (X.blk u3 G3 scope ce fp) (p :: tl) H' b := fun {σ' H' s'} Y' hn b hb =>
    ⟨hn b hb, (Y'.ok.exf b hb).1, Y'.ok.exfs b hb, .inl hb, fun x c e => (Y'.ok.exf b hb).2 x c e, fun z hz => (o3 b hb).1.2.2.2.2.2 z (List.mem_append_left _ (hp z hz))⟩
  have lp : codeAny (model X.prog X.w) X.A (.compLoop (.ListComp elt [⟨tg, iter, ifs, 0⟩] scope pos) 0 (.ref it) (.ref D) ce) (compPost (model X.prog X.w) X.A X.xe use Qf (.ref D) u3.heap.objs.size) u4 := by
    refine compLoop_any (fun n s' => ∃ i H', Inv (X.blk u3 G3 scope ce fp) (p :: tl) (wipe σ (own.map (·.2))) H' s' ∧ tn i s'.heap ∧ (∀ b ∈ fp, H' b = none) ∧ W i n H') ?_ k0 ⟨0, G3, Y4, tn4, fpn, v0⟩
    rintro n u5 ⟨i, G5, Y5, tn5, n5, w5⟩
    rcases trn i n G5 w5 with ⟨stop, qq⟩ | ⟨go, Nx, hNx, stp⟩
    · have td := T.done ((X.blk u3 G3 scope ce fp).tr (p :: tl) fun _ _ => False) rfl rfl rfl ⟨p, tl, hot, fun y hy => hy⟩ i [] u5 _ G5 (fun _ _ => False) (Y5.toTry _) (fun b hb => let q := sta Y5 n5 b hb; ⟨q.1, q.2.1, q.2.2.1, q.2.2.2.1, q.2.2.2.2.1, fun y hy => q.2.2.2.2.2 y (show y ∈ p :: tl from by simpa using (show y ∈ (p :: tl) ++ [] from hy))⟩) tn5 stop
      refine thnF td fun r u6 ⟨hr, Y6⟩ => ?_
      subst hr
      -- back in the def's context
      have Y7 : Inv X pins σ G5 u6 := Y3.call' (ch := fp) Y6.os Y6.base Y6.hok Y6.bare fun b hb => ⟨(o3 b hb).1.2.2.2.1, (o3 b hb).1.2.1, (o3 b hb).1.2.2.2.2.1, (o3 b hb).1.2.2.2.2.2⟩
      have nC : G5 u3.heap.objs.size = none := by
        have z : G5 ce.locals = none := Y6.free
        rw [cL] at z
        exact z
      obtain ⟨m, hn, _⟩ := Y6.loc
      have hn : u6.heap.Ns ce.locals m := hn
      rw [cL] at hn
      exact fin_ D u3.heap.objs.size u6 m G5 Y7 qq hn (Y3.fpOk (Nat.le_refl _) nC)
    · have ti := T.item ((X.blk u3 G3 scope ce fp).tr (p :: tl) fun _ _ => False) rfl rfl rfl ⟨p, tl, hot, fun y hy => hy⟩ i [] u5 _ G5 (fun _ _ => False) (Y5.toTry _) (fun b hb => let q := sta Y5 n5 b hb; ⟨q.1, q.2.1, q.2.2.1, q.2.2.2.1, q.2.2.2.2.1, fun y hy => q.2.2.2.2.2 y (show y ∈ p :: tl from by simpa using (show y ∈ (p :: tl) ++ [] from hy))⟩) tn5 go
      refine thnF ti fun r u6 ⟨u, hr, h6⟩ => ?_
      subst hr
      refine thnF h6 fun _ u7 ⟨x, G7, Y7, r7, y7, tn7, n7⟩ => ?_
      have Y7 := Inv.ofTry (X := X.blk u3 G3 scope ce fp) (pins := (p :: tl)) Y7 Y5.ok
      have Y7' := Y7.pinned (sta Y7 n7) (T.obj _ _ tn7)
      refine thnF (pg.run _ u7 _ G7 x u _ Y7' r7 (stp x G7 y7)) fun _ u8 ⟨σ8, G8, Y8, hw8, q8⟩ => ?_
      refine thnF (pt.run _ u8 σ8 G8 _ Y8 q8) fun b u9 ⟨G9, Y9, q9⟩ => ?_
      -- the trn's end
      have fin : ∀ {s' : Shared} {H' : Hp}, Inv (X.blk u3 G3 scope ce fp) ((p :: tl) ++ pinsAt fp u7.heap) σ8 H' s' → Nx H' → ∃ m, m < n ∧ ∃ i H', Inv (X.blk u3 G3 scope ce fp) (p :: tl) (wipe σ (own.map (·.2))) H' s' ∧ tn i s'.heap ∧ (∀ b ∈ fp, H' b = none) ∧ W i m H' := fun {s' H'} Y' nx => by
        obtain ⟨m', hm, w'⟩ := hNx H' nx
        have pin' : ∀ b ∈ fp, ∀ o, u7.heap.get? b = some o → s'.heap.get? b = some o ∧ H' b = none := fun b hb o e =>
          let z := Y'.pin (b, o) (List.mem_append_right _ (List.mem_append_right _ (mem_pinsAt hb e)))
          ⟨z.1, z.2.1⟩
        have hl : (wipe σ (own.map (·.2))).length = σ8.length := by rw [← hw8, wipe_length]
        refine ⟨m', hm, i + 1, H', (Y'.unpinned (pins := (p :: tl))).weak hl (fun j v e => ?_), T.keep _ _ _ tn7 fun b hb o e => (pin' b hb o e).1, fun b hb => ?_, w'⟩
        · rw [← hw8] at e
          exact (wipe_some e).1
        · obtain ⟨o, e, _⟩ := T.obj _ _ tn7 b hb
          exact (pin' b hb o e).2
      cases b with
      | false =>
        simp only [Bool.false_eq_true, if_false] at q9 ⊢
        exact fin Y9 q9
      | true =>
        simp only [if_true] at q9 ⊢
        refine thnF (pe.run _ u9 σ8 G9 _ Y9 q9) fun z s10 ⟨yv, H10, I10, r10, acc, hD10, hz10, nx⟩ => ?_
        exact app_ok (X := X.blk u3 G3 scope ce fp) I10 hD10 hz10 r10 fun s11 I11 => fin I11 nx
  exact codeAny_compStart_list lp (T.self X.A 0 _ _ _ tn4 lp)
theorem pe_lcG {elt tg iter : Expr} {ifs : List Expr} {scope : Scope} {own : List (Str × Nat)} {pos : Pos} {wi : TI} {g : TG} {tt : TT} {te : TE} {p : Addr × Obj} {tl : List (Addr × Obj)} (hp : ∀ y ∈ p :: tl, y ∈ X.pn) (hot : HotG X.A p tl) (hN : X.N.Nodup) (hi : PIG X tg iter wi) (ok : BlkOk X.N X.env.scope scope own)
    (hg : ∀ (s : Shared) (H : Hp) (C : Addr) (cl : List (Str × Addr)) (fp : List Addr), PG (X.blk s H scope (compEnvC scope cl C X.env) fp) tg g) (ht : ∀ (s : Shared) (H : Hp) (C : Addr) (cl : List (Str × Addr)) (fp : List Addr), PTs (X.blk s H scope (compEnvC scope cl C X.env) fp) ifs tt)
    (he : ∀ (s : Shared) (H : Hp) (C : Addr) (cl : List (Str × Addr)) (fp : List Addr), PE (X.blk s H scope (compEnvC scope cl C X.env) fp) elt te) (hs : ∀ x, foldedSetIterable iter X.env x = pure x := by intro _; rfl) :
    PE X (.ListComp elt [⟨tg, iter, ifs, 0⟩] scope pos) (tLc wi g tt te (own.map (·.2))) := by
  refine ⟨fun pins s σ H Q J h => ?_⟩
  rw [eval_ListComp]
  refine lcG hp hot hN J hi ok hg ht he hs h fun D C s' m H' J' q hn f => ⟨m, hn, fun h'' sb => ?_⟩
  obtain ⟨f0, f1, f2, f3, f4, f5⟩ := f
  exact ⟨.ref D, H', J'.turned (t' := s'.toks) (fun b o hb e => (sb.2 b hb).trans e) f0 f1 f3 f4 f5, rfl, q⟩
/-- a list's walk, the handled exception and its context standing by -/
theorem walks_G {prog : Program} {w : World} {A : Around} {z : Addr × Obj} {tl : List (Addr × Obj)} (hot : HotG A z tl) (I ax : Addr) (hne : ax ≠ I) (hz : ∀ y ∈ z :: tl, y.1 ≠ I) (items : Array Value) :
    PySem.Walks prog w A I (I :: ax :: (z :: tl).map (·.1)) [I] items.size (fun i v => items[i]? = some v) (fun i h => h.IsListIter I ax i ∧ h.IsList ax items ∧ ChAt (z :: tl) h) where
  sub := fun b hb => by simp at hb; simp [hb]
  frame := fun _ _ _ st hk => ⟨st.1.at fun o e => hk I (by simp) o e, st.2.1.at fun o e => hk ax (by simp) o e, fun y hy => hk y.1 (List.mem_cons_of_mem _ (List.mem_cons_of_mem _ (List.mem_map.mpr ⟨y, hy, rfl⟩))) _ (st.2.2 y hy)⟩
  item := fun i s Q E hi st hQ => wpAny_pyNext_list_item st.1 st.2.1 (x := items[i]) (by simp [hi]) fun h' hit' hs' =>
    hQ _ h' s.toks (by simp [hi]) ⟨hit', st.2.1.extBut hs'.extBut hne, fun y hy => hs'.extBut _ _ (hz y hy) (st.2.2 y hy)⟩ fun b o hb e => hs'.extBut b o (fun h => hb (by simp [h])) e
  done := fun s Q E st hQ => list_endG hot st.2.2 st.1 st.2.1 (by simp) hz fun h' he' => hQ h' s.toks fun b o hb e => he' b o (fun h => hb (by simp [h])) e
  self := fun _ _ _ _ st hQ => wpAny_pyIter_listiter st.1 hQ
theorem cr_sumG (hc : HotCG X) : CallR X (.builtin "sum") (rSum X.K) := by
  rintro pins s σ H vs us Q J r ⟨a, ns, rfl, hs, q⟩
  obtain ⟨its, rv, hl, _⟩ := J.list hs
  obtain ⟨z, tl, hot, hy⟩ := hc
  have P1 : ChAt (z :: tl) s.heap := fun y h => (J.pin y (List.mem_append_left _ (hy y h))).1
  have hi := rv.ints
  rw [Vals.ref1 r]
  obtain ⟨xs, e⟩ := hi.allInts.items
  have hn : numsOf (intItems xs).toList = ns := by rw [← e]; exact hi.numsOf
  rw [nums_intItems] at hn
  have hl' := hl.isList
  rw [e] at hl'
  refine call_sum_walkG (wpAny_pyIter_list hl' ?_)
  have na : a ≠ s.heap.objs.size := Nat.ne_of_lt (by obtain ⟨o, ho, _⟩ := hl'; exact Heap.lt_size ho)
  have ny : ∀ y ∈ z :: tl, y.1 ≠ s.heap.objs.size := fun y h => Nat.ne_of_lt (Heap.lt_size (P1 y h))
  have hot' : HotG X.A.in1 z tl := ⟨hot.hd, hot.ch⟩
  refine ⟨_, _, _, _, _, _, numAt xs, rfl, walks_G (A := X.A.in1) hot' s.heap.objs.size a na ny (intItems xs), ⟨⟨_, Heap.get?_push_size _ rfl, rfl, rfl⟩, hl'.push _, fun y h => Heap.get?_push_of_some _ (P1 y h)⟩, fun b hb => ?_, (fun _ _ => intItems_at), fun h' tk t' hk => ?_⟩
  · show b < (s.heap.push _).objs.size
    rw [Heap.size_push]
    rcases List.mem_cons.mp hb with rfl | hb
    · exact Nat.lt_succ_self _
    · rcases List.mem_cons.mp hb with rfl | hb
      · exact Nat.lt_succ_of_lt (by obtain ⟨o, ho, _⟩ := hl'; exact Heap.lt_size ho)
      · obtain ⟨y, h, rfl⟩ := List.mem_map.mp hb
        exact Nat.lt_succ_of_lt (Heap.lt_size (P1 y h))
  · have e3 : preSum (numAt xs) (intItems xs).size = ns.sum := by
      rw [show (intItems xs).size = xs.size by simp [intItems], preSum_eq, List.take_of_length_le (by simp), hn]
    rw [e3]
    refine ⟨.int _, H, J.kept (t' := tk) fun b o e => hk b o (fun hm => ?_) (Heap.get?_push_of_some _ e), ⟨_, rfl⟩, q⟩
    have lt := Heap.lt_size e
    rw [show b = s.heap.objs.size by simpa using hm] at lt
    exact Nat.lt_irrefl _ lt
end
end IL
namespace IL
open PySem PySem.Spec PyProof.Rows L2
/-! ### the word of what is handled, which may have a context -/
abbrev cxG (CX : CXT) (P : Program) (w : World) (K : PySem.W.Frag) (mg : Str → Option Value) (base : Heap) (N : List Str) (x : Str) (sc : Scope) (f : Addr) (cdv : Value) (A : Around) (outer : List PySem.Env) (s : Shared) (H : Hp) (E : XK) (z : Addr × Obj) (tl : List (Addr × Obj)) : Cx :=
  (L2H.cxH CX P w K mg base N x sc f cdv A outer s H E z).tr (z :: tl) (L2H.cxH CX P w K mg base N x sc f cdv A outer s H E z).xe
/-- the word of an exception: a def called within the suite, with the exception that is handled -/
structure FnWG (cs : List XC) (T : Gam) (ca : XC → Addr) (nm : XC → Str) (P : Program) (w : World) (K : PySem.W.Frag) (mg : Str → Option Value) (base : Heap) (k : Nat) (f : Addr) (fd : FuncData) (ps : List Str) : Prop where
  run : ∀ (CX : CXT) (A : Around) (outer : List PySem.Env) (s : Shared) (H : Hp) (args : Args) (Q : VK) (E : XK) (z : Addr × Obj) (tl : List (Addr × Obj)) (c : XC) (S : List Addr), L2H.RoomH k A → HotG A z tl → (∀ y ∈ z :: tl, L2H.PinOk outer H s y) → Env0 P w K mg base A outer s H → BindsTo s fd args (ps.zip [.ref z.1]) →
    z.2.cls = .ref (ca c) → z.2.dict = none → (∃ vs, z.2.data = .fields vs) → c ∈ cs → Live T S H → (∀ v H', Pe T H H' → Rp K (hide S H') v (refused nm c) → Q v H') → codeAny (model P w) A (.call (.ref f) args) (CR CX outer P w H s Q E) s
section
variable {T : Gam} {ca : XC → Addr} {P : Program} {w : World} {K : PySem.W.Frag} {mg : Str → Option Value} {base : Heap}
theorem run_wordG {cs : List XC} {x : Str} {st : Stmt} {f : Addr} {fd : FuncData} {N ps : List Str} {k : Nat} (F : L2.Fun K x x st f fd) (S : FnScope N ps (defScope st)) (hps : ps.length = 1)
    (hbody : ∀ (CX : CXT) (cdv : Value) (A : Around) (outer : List PySem.Env) (s : Shared) (H : Hp) (Q : VK) (E : XK) (z : Addr × Obj) (tl : List (Addr × Obj)) (c : XC) (S : List Addr), HotG A z tl → z.2.cls = .ref (ca c) → z.2.dict = none → (∃ vs, z.2.data = .fields vs) → c ∈ cs → Live T S H → (∀ v H', Pe T H H' → Rp K (hide S H') v (refused nmX c) → Q v H') →
      ∃ t, PSs (cxG CX P w K mg base N x (defScope st) f cdv A outer s H E z tl) (defBody st) t ∧ t { nx := fun _ H' => Q .non H', rt := Q } (L2.start N [.ref z.1]) H) : FnWG cs T ca nmX P w K mg base (k + 1) f fd ps := by
  obtain ⟨oc, od, kV, doc, pm, an, cdv, ct, osl, rfl, lk, hcd⟩ := F.ex
  refine ⟨fun CX A outer s H args Q E p tl c S0 hr hot hpin e0 hb z1 z2 hf hcs lv hq => ?_⟩
  have KX := e0.mod.kin.keeps fun b o e => (e0.bs b o e).1
  have hkd : ∀ y ∈ ps.zip [Value.ref p.1], (defScope st).names.lookup y.1 = some .local ∨ ((defScope st).names.lookup y.1 = some .cell ∧ ((cellsFrom (s.heap.objs.size + 1) (defScope st).names []).lookup y.1).isSome = true) := fun ⟨n, v⟩ hy => by
    rcases S.par n (List.of_mem_zip hy).1 with q | q
    · exact .inl q
    · exact .inr ⟨q, PySem.W.cellsFrom_some _ _ _ (.inl q)⟩
  refine codeAny_call_function hr.depth (KX _ _ lk) rfl S.co S.gen rfl (PySem.W.codeRec_of KX hcd) (hb _ _ _ _ ?_)
  refine wpAny_newFunctionEnv_cells S.kind hkd fun env he s1 y => ?_
  subst he
  refine ⟨(e0.mod.nolimit.keeps fun b o e => (e0.bs b o e).1).keeps y.toInCall.keep, codeAny_func ?_⟩
  obtain ⟨t, ht, h⟩ := hbody CX cdv A outer s H Q E p tl c S0 hot z1 z2 hf hcs lv hq
  have J0 : Inv (L2H.cxH CX P w K mg base N x (defScope st) f cdv A outer s H E p) [] (L2.start N [.ref p.1]) H s1 := L2H.inv_startH (us := [.ref p.1]) (vs := [.ref p.1]) S (hpin p List.mem_cons_self) e0 hps.symm (.cons rfl .nil) y
  have J1 : Inv (L2H.cxH CX P w K mg base N x (defScope st) f cdv A outer s H E p) tl (L2.start N [.ref p.1]) H s1 := J0.pins_of fun z hz => by
    have h1 := hpin z (List.mem_cons_of_mem _ hz)
    exact ⟨y.toInCall.keep _ _ h1.get, h1.free, Nat.ne_of_lt (Heap.lt_size h1.get), h1.nofs, h1.nocell⟩
  have J : Inv (cxG CX P w K mg base N x (defScope st) f cdv A outer s H E p tl) [] (L2.start N [.ref p.1]) H s1 := J1.toTry _
  refine wpAny_mono (ht.run [] s1 _ H _ J h) (fun fl s' hs => ?_) fun e s' hs => hs
  match fl, hs with
  | .ret u, ⟨v, σ', H', J', rv, q⟩ => exact ⟨v, H', J'.os, J'.bare, J'.base, J'.hok, rv, q⟩
  | .next, ⟨σ', H', J', q⟩ => exact ⟨V.non, H', J'.os, J'.bare, J'.base, J'.hok, rfl, q⟩
  | .brk, ⟨_, _, _, q⟩ => exact q.elim
  | .cont, ⟨_, _, _, q⟩ => exact q.elim
end
section
variable {cs : List XC} {T : Gam} {ca : XC → Addr} {nm : XC → Str} {X : Cx} {k : Nat} {f : Addr} {fd : FuncData} {ps : List Str}
/-- x(e) in the suite, e the name of what is handled -/
theorem pe_wordG {i : Nat} {x y : Str} {q q2 pos : Pos} {a : Addr} {oe : Obj} {tl pn : List (Addr × Obj)} {cls : Value} {d : Option Addr} (F : FnWG cs T ca nm X.prog X.w X.K X.mg X.base k f fd ps) (hps : ps.length = 1) (hr : L2H.RoomH k X.A) (hc1 : oe.cls = cls) (hc2 : oe.dict = d) (hvs : ∃ vs, oe.data = .fields vs) (hch : Ch (a, oe) tl) (htl : ∀ z ∈ tl, z ∈ pn)
    (hg : Gl X x) (hm : X.mg x = some (.ref f)) (hk : PySem.W.keepIn X.K (.ref f) = true) (hb : Binds X.K fd ps []) (hN : X.N[i]? = some y) (hv : Vis X.env.scope y) (hdb : (x == ("__debug__" : Str)) = false) (hd : (y == ("__debug__" : Str)) = false) (hcd : (y == ("__classdict__" : Str)) = false)
    (he : starEach [.Name y q2] X.env = (false, eval (.Name y q2) X.env) :: starEach [] X.env) (hpl : (backTo pos (starEach [] X.env)).any (·.1) = false) :
    PE (X.suite a ((a, oe) :: pn)) (.Call (.Name x q) [.Name y q2] [] pos) fun σ H Q => σ[i]? = some (some (.ref a)) ∧ ∃ c S, cls = .ref (ca c) ∧ d = none ∧ c ∈ cs ∧ Live T S H ∧ ∀ v H', Pe T H H' → Rp X.K (hide S H') v (refused nm c) → Q v H' := by
  refine ⟨fun pins s σ H Q I ⟨hi, c, S, e1, e2, hcs, lv, hQ⟩ => ?_⟩
  subst e1 e2
  refine wpAny_Call_Name_kw (ld_glob I hg hm ?_ hdb)
  have va : PA (X.suite a ((a, oe) :: pn)) [.Name y q2] (tCons (tVar i) tNil) := pa_cons (pe_var hN hv hd hcd) pa_nil he
  refine PySem.W.callWith_K (h₀ := X.base) I.ok.mod.kin hk (thn (va.run pos pins s σ H (fun vs H1 => vs = [.ref a] ∧ H1 = H) I ⟨_, hi, rfl, rfl⟩) fun us s1 ⟨vs, H1, I1, r1, ev, eH⟩ => ⟨I1.kIn, ?_⟩) he hpl
  subst ev eH
  have eu : us = [.ref a] := by
    cases r1 with
    | cons ru rn =>
      cases rn
      cases ru
      rfl
  subst eu
  have hot : HotG (X.suite a ((a, oe) :: pn)).A (a, oe) tl := ⟨rfl, hch⟩
  have pk : ∀ z ∈ (a, oe) :: tl, L2H.PinOk X.stack H1 s1 z := fun z hz => by
    have hz' : z ∈ (a, oe) :: pn := by
      rcases List.mem_cons.mp hz with rfl | h
      · exact List.mem_cons_self
      · exact List.mem_cons_of_mem _ (htl z h)
    have P1 := I1.pin z (List.mem_append_left _ hz')
    exact ⟨P1.1, P1.2.1, fun hm => (List.mem_cons.mp (I1.stkSub z.1 hm)).elim P1.2.2.1 P1.2.2.2.1, P1.2.2.2.2⟩
  have b := hb s1 [.ref a] I1.kIn (by rw [List.append_nil, hps]; rfl)
  rw [List.append_nil] at b
  refine wpAny_call (codeAny_mono (F.run C8.CX0 (X.suite a ((a, oe) :: pn)).A X.stack s1 H1 ⟨[.ref a], []⟩ Q C8.E0 (a, oe) tl c S ⟨hr.dp, hr.un⟩ hot pk I1.env0 b hc1 hc2 hvs hcs lv hQ) fun r s' hq => ?_)
  match r, hq with
  | .error e, hq => exact (show False from hq).elim
  | .ok (.ret u), hq => exact I1.after hq
end
end IL
namespace IL
open PySem PySem.Spec PyProof.Rows L2
/-! ### exceptions whose context is None, or one whose own is None -/
def ZX (B : Heap) (H : Hp) (cls : Value) (d : Option Addr) : Obj → Prop := fun o => Zc cls d o ∧ ∀ vs : Array Value, o.data = .fields vs →
  vs[2]? = some .none ∨ ∃ y : Addr × Obj, vs[2]? = some (.ref y.1) ∧ B.get? y.1 = some y.2 ∧ cNo y.2 ∧ H y.1 = none
theorem ZX.ofN {B : Heap} {H : Hp} {cls : Value} {d : Option Addr} {o : Obj} (z : L2N.Zn cls d o) : ZX B H cls d o := ⟨z.zc, fun vs e => .inl (z.2.2 vs e)⟩
theorem ZX.steady {B : Heap} {H : Hp} {cls : Value} {d : Option Addr} : PXN.Steady1 (ZX B H cls d) := fun o v z => by
  refine ⟨⟨PXN.steady_cls o v z.1.1, PXN.steady_dict o v z.1.2⟩, ?_⟩
  obtain ⟨oc, od, dt, sl⟩ := o
  cases dt with
  | fields us =>
    intro vs e
    have e2 : us.setIfInBounds 1 v = vs := Data.fields.inj e
    have e3 : (us.setIfInBounds 1 v)[2]? = us[2]? := Array.getElem?_setIfInBounds_ne (by decide)
    rw [← e2, e3]
    exact z.2 us rfl
  | _ => intro vs e; cases e
def CX3 (P : Program) (w : World) (outer : List PySem.Env) (H : Hp) (s : Shared) (E : XK) (u : Value) (s' : Shared) : Prop :=
  ∃ (a : Addr) (B : Heap) (G : Hp) (cls : Value) (d : Option Addr), u = .ref a ∧ HandSPX.FlyingZ B outer a (ZX B G cls d) s'.heap ∧ HOk P w G B ∧ UB (frs outer) H G s.heap B s'.heap ∧ G a = none ∧ s'.os = s.os ∧ AllBare s'.gens ∧ E cls d G
def XE3 (X : Cx) (W : WX) (u : Value) (s' : Shared) : Prop :=
  ∃ (a : Addr) (B : Heap) (t : Shared) (pins : List (Addr × Obj)) (σ : L2.St) (G : Hp) (cls : Value) (d : Option Addr),
    u = .ref a ∧ Inv X pins σ G t ∧ (∀ b o, t.heap.get? b = some o → b ∉ frs X.stack → B.get? b = some o) ∧ t.heap.UpToSlots s'.heap ∧
      Sky B X.stack a (ZX B G cls d) X.env.locals s'.heap ∧ G a = none ∧ s'.os = t.os ∧ AllBare s'.gens ∧ W cls d σ G
def Takes3 (X : Cx) (W : WX) : Prop := ∀ u s', XE3 X W u s' → X.xe u s'
theorem skyImp {B : Heap} {l : List PySem.Env} {a L : Addr} {Z Z' : Obj → Prop} {h : Heap} (z : ∀ o, Z o → Z' o) (x : Sky B l a Z L h) : Sky B l a Z' L h := by
  rcases x with ⟨x1, x2, x3, oe, vs, x4, x5, x6⟩ | x | x
  · exact .inl ⟨x1, x2, x3, oe, vs, x4, z _ x5, x6⟩
  · exact .inr (.inl (L2H.flyingZ_imp z x))
  · exact .inr (.inr ⟨x.1, x.2.1, x.2.2.1, L2H.tracedZ_imp z x.2.2.2⟩)
theorem XE3.ofN {X : Cx} {W : WX} {u : Value} {s' : Shared} (x : L2N.XE X W u s') : XE3 X W u s' :=
  let ⟨a, B, t, pins, σ, G, cls, d, e, I, nb, up, sky, r⟩ := x; ⟨a, B, t, pins, σ, G, cls, d, e, I, nb, up, skyImp (fun _ => ZX.ofN) sky, r⟩
theorem Takes3.takes {X : Cx} {W : WX} (tk : Takes3 X W) : L2N.Takes X W := fun u s' x => tk u s' (.ofN x)
section
variable {X : Cx} {pins : List (Addr × Obj)} {σ : L2.St} {H : Hp} {t s s' : Shared} {B : Heap} {W : WX} {E : XK}
theorem XE3.of_call (I : Inv X pins σ H s) (hW : ∀ cls d G, E cls d G → W cls d σ G) {u : Value} (c : CX3 X.prog X.w X.stack H s E u s') : XE3 X W u s' := by
  obtain ⟨a, B, G', cls, d, rfl, fl, hok, ub, na, os, ag, hE⟩ := c
  obtain ⟨G, g1, g2⟩ := restrict s'.heap fun b => (B.get? b).isSome || decide (b ∈ frs X.stack)
  have gB : ∀ b o, B.get? b = some o → G.get? b = some o := fun b o e => (g1 b (by rw [e]; rfl)).trans (fl.1 b o e)
  have gF : ∀ b, b ∈ frs X.stack → G.get? b = s'.heap.get? b := fun b hb => g1 b (by rw [decide_eq_true hb, Bool.or_true])
  have og : ∀ b o, G.get? b = some o → s'.heap.get? b = some o ∧ ((B.get? b).isSome = true ∨ b ∈ frs X.stack) := fun b o e => by
    by_cases q : ((B.get? b).isSome || decide (b ∈ frs X.stack)) = true
    · rw [g1 b q] at e
      rw [Bool.or_eq_true, decide_eq_true_eq] at q
      exact ⟨e, q⟩
    · rw [g2 b (by simpa using q)] at e
      cases e
  have J : Inv X pins σ G' { s with heap := G, gens := s'.gens, drawn := s'.drawn, toks := s'.toks } := by
    refine I.call (ch := []) ⟨fun b o e n hb _ => gB b o (ub.keep b o e n hb), fun b o e n hb _ => ?_, fun b o e n _ => ub.free b o e n, fun b o e _ => ?_, ub.tups, ub.frzs, ub.tbls⟩ (hok.kept gB) ag (fun _ z => nomatch z)
    · obtain ⟨sl, q⟩ := ub.slot b o e hb
      exact ⟨sl, (gF b hb).trans q⟩
    · by_cases hb : b ∈ frs X.stack
      · obtain ⟨sl, q⟩ := ub.slot b o e hb
        exact ⟨_, (gF b hb).trans q⟩
      · obtain ⟨o', q⟩ := ub.there b o e hb
        exact ⟨o', gB b o' q⟩
  refine ⟨a, B, _, pins, σ, G', cls, d, rfl, J, fun b o e hb => ?_, Heap.UpToSlots.of_keeps fun b o e => (og b o e).1, .inr (.inl fl), na, os, ag, hW _ _ _ hE⟩
  obtain ⟨e', h | h⟩ := og b o e
  · obtain ⟨o', q⟩ := Option.isSome_iff_exists.mp h
    exact q.trans ((fl.1 b o' q).symm.trans e')
  · exact absurd h hb
/-- a new exception, whose context may be one that stands -/
theorem XE3.made {a : Addr} {oe : Obj} {vs : Array Value} {cls : Value} {d : Option Addr} (I : Inv X pins σ H t) (k : ∀ b o, t.heap.get? b = some o → s'.heap.get? b = some o) (hne : t.heap.get? a = none) (he : s'.heap.get? a = some oe)
    (hz : Zc cls d oe) (hc : ∀ ws : Array Value, oe.data = .fields ws → ws[2]? = some .none ∨ ∃ y : Addr × Obj, ws[2]? = some (.ref y.1) ∧ t.heap.get? y.1 = some y.2 ∧ y.1 ∉ frs X.stack ∧ cNo y.2 ∧ H y.1 = none)
    (hd : oe.data = .fields vs) (h1 : vs[1]? = some .none) (na : H a = none) (os : s'.os = t.os) (ag : AllBare s'.gens) (wi : W cls d σ H) : XE3 X W (.ref a) s' := by
  have nB : (PySem.W.hideAll t.heap (frs X.stack)).get? a = none := by
    cases q : (PySem.W.hideAll t.heap (frs X.stack)).get? a with
    | none => rfl
    | some o => exact nomatch (hne.symm.trans (PySem.W.of_hideAll _ q))
  have zx : ZX (PySem.W.hideAll t.heap (frs X.stack)) H cls d oe := ⟨hz, fun ws e => (hc ws e).imp id fun ⟨y, y1, y2, y3, y4, y5⟩ => ⟨y, y1, PySem.W.hideAll_get _ y2 y3, y4, y5⟩⟩
  exact ⟨a, PySem.W.hideAll t.heap (frs X.stack), t, pins, σ, H, cls, d, rfl, I, fun b o e hb => PySem.W.hideAll_get _ e hb, Heap.UpToSlots.of_keeps k,
    .inl ⟨fun b o e => k b o (PySem.W.of_hideAll _ e), nB, Heap.FunFrames.of_keeps (fun b o e _ => ⟨o, k b o e, rfl⟩) (funFrames_none I.stack fun b hb => PySem.W.hideAll_none _ hb), oe, vs, he, zx, hd, h1⟩, na, os, ag, wi⟩
theorem XE3.leave (hs : X.stack = X.env :: X.outer) (hf : X.env.frame = some X.env.locals) (hex : X.ex = []) {E₁ : Value → Shared → Prop} (hW : ∀ cls d σ H, W cls d σ H → E cls d H) {u : Value} (x : XE3 X W u s') :
    wpAny (model X.prog X.w) X.A (leaving X.env u) (fun _ z => CX3 X.prog X.w X.outer X.H_0 X.s_0 E u z) E₁ s' := by
  obtain ⟨a, B, t, pins, σ, G, cls, d, rfl, I, nb, up, sky, na, os, ag, wi⟩ := x
  have hfr : X.A.frames = some (X.env :: X.outer) := hs ▸ I.ok.frames
  have nst : ∀ b o, X.s_0.heap.get? b = some o → b ∉ X.fs → b ∉ frs X.stack := fun b o e hb hm => (List.mem_cons.mp (I.stkSub b hm)).elim
    (fun z => Nat.lt_irrefl _ (Nat.lt_of_lt_of_le (z ▸ Heap.lt_size e) I.ok.above)) hb
  have hex' : ∀ b, b ∉ X.ex := fun b hb => by rw [hex] at hb; cases hb
  have fin : ∀ h', HandSPX.FlyingZ B X.outer a (ZX B G cls d) h' → s'.heap.UpToSlots h' → CX3 X.prog X.w X.outer X.H_0 X.s_0 E (.ref a) { s' with heap := h' } := fun h' fl up' => by
    have ub : UB (frs X.outer) X.H_0 G X.s_0.heap B h' := by
      refine ⟨fun b o e n hb => nb b o (I.base.keep b o e n hb (hex' b)) (nst b o e hb), fun b o e hb => ?_, fun b o e n => I.base.free b o e n (hex' b), fun b o e hb => ?_, I.base.tups, I.base.frzs, I.base.tbls⟩
      · obtain ⟨_, o₀, e₀, hnf⟩ := I.ok.funs.mem hb
        rw [e] at e₀; cases e₀
        obtain ⟨sl, e1⟩ := I.base.slot b o e (I.ok.frf b hb) hb (hex' b)
        obtain ⟨sl2, e2⟩ := up b _ e1 hnf
        obtain ⟨sl3, e3⟩ := up' b _ e2 hnf
        exact ⟨sl3, e3⟩
      · obtain ⟨o', e1⟩ := I.base.there b o e (hex' b)
        exact ⟨o', nb b o' e1 (nst b o e hb)⟩
    exact ⟨a, B, G, cls, d, rfl, fl, I.inGround nb, ub, na, os.trans I.os, ag, hW _ _ _ _ wi⟩
  rw [hs] at sky
  rcases sky with ⟨hB, hn, hl, oe, vs, he, hz, hd, h1⟩ | fl | hd
  · exact PXN.leaving_firstZ ZX.steady hfr hl hf he hB hn hd h1 hz fin
  · exact PXN.leaves_onZ ZX.steady hfr hf fl fin
  · exact HandSPX.leaves_heldZ hf hd fin
theorem takes3_of (hs : X.stack = X.env :: X.outer) (hf : X.env.frame = some X.env.locals) (hex : X.ex = []) {E₁ : Value → Shared → Prop}
    (hx : X.xe = fun e z => wpAny (model X.prog X.w) X.A (leaving X.env e) (fun _ y => CX3 X.prog X.w X.outer X.H_0 X.s_0 E e y) E₁ z) : Takes3 X (fun cls d _ H => E cls d H) := fun u s' x => by
  rw [hx]
  exact XE3.leave (W := fun cls d _ H => E cls d H) (E := E) hs hf hex (fun _ _ _ _ h => h) x
end
/-- raise in a suite where p is handled -/
theorem ps_raise3 {X : Cx} {W : WX} {e : Expr} {te : L2.St → Hp → XK → Prop} {pos : Pos} {p : Addr × Obj} (hot : L2H.Hot1 X.A p) (hp : p ∈ X.pn) (tk : Takes3 X W) (he : L2N.PMk X e te) : PS X (.Raise (some e) none pos) (fun _ σ H => te σ H fun cls d G => W cls d σ G) := by
  refine ⟨fun pins s σ H D I h => ?_⟩
  obtain ⟨hh, v1, e1, c1⟩ := hot
  show wpAny _ _ (do standAt pos; raiseStmt X.env (some (do let v ← eval e X.env; standAt pos; pure v)) none) _ _ _
  refine wpAny_bind (wpAny_standAt (HotX.raise_made_hot (x1 := p.1) (wpAny_bind (wpAny_mono (he pins s σ H _ I h) (fun u s1 hu => wpAny_bind (wpAny_standAt (wpAny_pure ?_))) fun _ _ y => y))))
  obtain ⟨a, oe, vs, t, G, cls, d, rfl, J, k, hne, ha, hz, hd, h1, na, os, ag, r, q⟩ := hu
  obtain ⟨r1, r2⟩ := r (model X.prog X.w) s1.heap (J.kIn.keeps k)
  have P1 := J.pin p (List.mem_append_left _ hp)
  have nap : p.1 ≠ a := fun z => by
    have q := P1.1
    rw [z, hne] at q
    cases q
  have hi : 2 < vs.size := (Array.getElem?_eq_some_iff.mp (hz.2.2 vs hd)).1
  have h1' : (vs.setIfInBounds 2 (Value.ref p.1))[1]? = some Value.none := (Array.getElem?_setIfInBounds_ne (by decide)).trans h1
  have hd' := Obj.data_mapFields hd (·.setIfInBounds 2 (Value.ref p.1))
  refine ⟨a, oe, vs, cls, rfl, ha, hz.1, hd, h1, hi, nap, ⟨hh, p.2, v1, k _ _ P1.1, e1, c1⟩, r1, r2, tk _ _ (XE3.made J (fun b u z => ?_) hne (Heap.get?_update_self _ ha (Obj.isFreed_of_fields hd')) ⟨(Obj.cls_mapFields ..).trans hz.1, (HandSPX.dict_mapFields ..).trans hz.2.1⟩ (fun ws e => .inr ⟨p, ?_, P1.1, fun hm => (List.mem_cons.mp (J.stkSub _ hm)).elim P1.2.2.1 P1.2.2.2.1, ⟨v1, e1, c1⟩, P1.2.1⟩) hd' h1' na os ag q)⟩
  · have nab : a ≠ b := fun y => by
      rw [← y, hne] at z
      cases z
    exact (Heap.get?_update_other _ _ nab).trans (k b u z)
  · rw [hd'] at e
    rw [← Data.fields.inj e]
    exact Array.getElem?_setIfInBounds_self_of_lt hi
end IL
namespace IL
open PySem PySem.Spec PyProof.Rows L2
/-! ### try -/
def wHit (K : PySem.W.Frag) (c : Value) (ts : Addr → Value → Option Addr → TS) (D : Ends) : WX := fun cls d σ H => PySem.W.exmOne K cls c = some true ∧ ∀ a, H a = none → ts a cls d D σ H
section
variable {X : Cx} {x n : Str} {c : Value} {i : Nat} {body suite orelse : List Stmt} {b₀ : Stmt} {np pos pos' : Pos} {tb : WX → TS} {ts : Addr → Value → Option Addr → TS} {Wout : WX} {u : TS}
theorem notFrame {B h : Heap} {l : List PySem.Env} {a : Addr} {o : Obj} {vs : Array Value} (ff : h.FunFrames B l) (e : h.get? a = some o) (dd : o.data = .fields vs) : a ∉ frs l := fun hm => by
  obtain ⟨_, o', e', hnf⟩ := ff.mem hm
  rw [e] at e'; cases e'
  exact hnf _ dd
/-- the clause's suite may raise; the body's exceptions are all of the clause's class -/
theorem ps_tryX (ho : PSs X orelse u) (hs : X.stack = X.env :: X.outer) (hf : X.env.frame = some X.env.locals) (hc : Names X x c) (hpa : ∀ hd : Option Value, PassesOwnAt (model X.prog X.w) (X.A.mark hd) X.A X.env X.xe) (tk : Takes3 X Wout)
    (hb : ∀ (W : WX) (pn : List (Addr × Obj)) (xe : Value → Shared → Prop), L2N.Takes (X.tr pn xe) W → PassesOwn (model X.prog X.w) X.A X.env xe → PSs (X.tr pn xe) body (tb W))
    (hsu : ∀ (a : Addr) (oe : Obj) (cls : Value) (d : Option Addr) (pn : List (Addr × Obj)), L2N.Zn cls d oe → (∃ vs, oe.data = .fields vs) → Takes3 (L2H.suiteX X a ((a, oe) :: pn)) Wout → PSs (L2H.suiteX X a ((a, oe) :: pn)) (b₀ :: suite) (ts a cls d)) :
    PS X (.Try body [.ExceptHandler (some (.Name x np)) none (b₀ :: suite) pos'] orelse [] pos) (fun D σ H => tb (wHit X.K c ts D) { D with nx := u D } σ H) := by
  refine ⟨fun pins s σ H D I h => ?_⟩
  have ok := I.ok
  have hfr : X.A.frames = some (X.env :: X.outer) := hs ▸ ok.frames
  refine wpAny_Try_except ?_
  refine wpAny_mono ((hb (wHit X.K c ts D) (X.pn ++ pins) (fun e s₁ => wpAny (model X.prog X.w) X.A (noteFrame e X.env) (fun _ s₂ => wpAny (model X.prog X.w) X.A (setFlight e none)
    (fun _ s₃ => wpAny (model X.prog X.w) X.A (handleBy e X.env [.ExceptHandler (some (.Name x np)) none (b₀ :: suite) pos']) (SP X pins D) X.xe s₃) X.xe s₂) X.xe s₁) (fun v s' xx => ?_) PassesOwn.looking).run [] s σ H { D with nx := u D } (I.toTry _) h) (fun f s1 hsp => ?_) (fun e s1 he => he)
  · obtain ⟨a, B, t, pins', σ', G, cls, d, rfl, J', nb, up, sky, na, os, ag, hb1, hyes⟩ := xx
    have J : Inv X pins σ' G t := J'.ofTry ok
    have sky' : Sky B (X.env :: X.outer) a (L2N.Zn cls d) X.env.locals s'.heap := hs ▸ sky
    show wpAny (model X.prog X.w) X.A (noteFrame (.ref a) X.env) _ _ _
    refine L2N.Sky.land L2N.Zn.steady hfr hf sky' fun h3 fl3 up3 => ?_
    have J3 : Inv X pins σ' G { s' with heap := h3 } := J.landed nb fl3.1 (up.trans up3) os ag
    obtain ⟨oe3, vs3, he3, hz3, hd3⟩ := fl3.there
    have nfr : a ∉ frs (X.env :: X.outer) := notFrame fl3.2.2.1 he3 hd3
    have nL : a ≠ X.env.locals := fun z => nfr (List.mem_filterMap.mpr ⟨X.env, List.mem_cons_self, hf.trans (congrArg some z.symm)⟩)
    have nF : a ∉ X.fs := fun hm => let ⟨e, he, q⟩ := List.mem_filterMap.mp hm; nfr (List.mem_filterMap.mpr ⟨e, List.mem_cons_of_mem _ he, q⟩)
    have S3 := J3.suite he3 hd3 na nL nF
    refine wpAny_handleBy_cons (codeAny_handlers_test ?_) (by intro q; cases q)
    have LT : PySem.W.Looks (model X.prog X.w) h3 (typeOf (.ref a)) cls := fun A Q E s k q => wpAny_typeOf_ref (k _ _ he3) (hz3.1.symm ▸ q)
    have LM := PySem.W.exm_one (M := model X.prog X.w) (J3.kIn) LT hb1
    have test : ∀ {Q : Value → Shared → Prop} {E : Value → Shared → Prop}, Q c { s' with heap := h3 } → wpAny (model X.prog X.w) (X.A.mark (some (.ref a))) (eval (.Name x np) X.env) Q E { s' with heap := h3 } := fun {Q E} q => by
      obtain ⟨hg, hdbg, hm | ⟨hm, hv, hnn⟩⟩ := hc
      · exact ld_glob S3 hg hm q hdbg
      · exact ld_blt S3 hg hm hv q hnn hdbg
    refine test (LM.here (codeAny_handlers_suite (HandSPX.lands_againZ fl3 fun h4 fl4 up4 => ?_)))
    have J4 : Inv X pins σ' G { s' with heap := h4 } := J.landed nb fl4.1 ((up.trans up3).trans up4) os ag
    obtain ⟨oe4, vs4, he4, hz4, hd4⟩ := fl4.there
    have S4 := J4.suite he4 hd4 na nL nF
    have tkS : Takes3 (L2H.suiteX X a ((a, oe4) :: (X.pn ++ pins))) Wout := fun u2 s2 x2 => by
      obtain ⟨a2, B2, t2, pn2, σ2, G2, cls2, d2, e2, I2, r2⟩ := x2
      exact tk u2 s2 ⟨a2, B2, t2, pins, σ2, G2, cls2, d2, e2, L2H.unsuiteX I2 ok, r2⟩
    refine wpAny_mono ((hsu a oe4 cls d (X.pn ++ pins) hz4 ⟨_, hd4⟩ tkS).run [] _ _ G _ (L2H.suiteX_of S4) (hyes a na)) (fun f s6 hsp => ?_) (fun e6 s6 z => hpa (some (.ref a)) e6 s6 z)
    match f, hsp with
    | .next, ⟨σ6, G6, S6, q6⟩ => exact ⟨_, _, L2H.unsuiteX S6 ok, q6⟩
    | .brk, ⟨σ6, G6, S6, q6⟩ => exact ⟨_, _, L2H.unsuiteX S6 ok, q6⟩
    | .cont, ⟨σ6, G6, S6, q6⟩ => exact ⟨_, _, L2H.unsuiteX S6 ok, q6⟩
    | .ret _, ⟨v6, σ6, G6, S6, r6, q6⟩ => exact ⟨_, _, _, L2H.unsuiteX S6 ok, r6, q6⟩
  · match f, hsp with
    | .next, ⟨σ', G, J', q⟩ => exact ho.run pins s1 σ' G D (J'.ofTry ok) q
    | .brk, ⟨σ', G, J', q⟩ => exact ⟨σ', G, J'.ofTry ok, q⟩
    | .cont, ⟨σ', G, J', q⟩ => exact ⟨σ', G, J'.ofTry ok, q⟩
    | .ret _, ⟨v, σ', G, J', r, q⟩ => exact ⟨v, σ', G, J'.ofTry ok, r, q⟩
/-- except c as n: what is caught may have a context -/
theorem ps_tryAs (hs : X.stack = X.env :: X.outer) (hf : X.env.frame = some X.env.locals) (hN : X.N.Nodup) (hi : X.N[i]? = some n) (hln : X.env.kindOf n = some .local) (hc : Names X x c)
    (hb : ∀ (W : WX) (pn : List (Addr × Obj)) (xe : Value → Shared → Prop), Takes3 (X.tr pn xe) W → PassesOwn (model X.prog X.w) X.A X.env xe → PSs (X.tr pn xe) body (tb W))
    (hsu : ∀ (a : Addr) (oe : Obj) (cls : Value) (d : Option Addr) (tl pn : List (Addr × Obj)), oe.cls = cls → oe.dict = d → (∃ vs, oe.data = .fields vs) → Ch (a, oe) tl → (∀ z ∈ tl, z ∈ pn) → PSs (X.suite a ((a, oe) :: pn)) (b₀ :: suite) (ts a cls d)) :
    PS X (.Try body [.ExceptHandler (some (.Name x np)) (some n) (b₀ :: suite) pos'] [] [] pos) (fun D σ H => tb (wAs X.K c i ts (fun _ _ _ _ => False) D) D σ H) := by
  refine ⟨fun pins s σ H D I h => ?_⟩
  have ok := I.ok
  have hfr : X.A.frames = some (X.env :: X.outer) := hs ▸ ok.frames
  refine wpAny_Try_except ?_
  refine wpAny_mono ((hb (wAs X.K c i ts (fun _ _ _ _ => False) D) (X.pn ++ pins) (fun e s₁ => wpAny (model X.prog X.w) X.A (noteFrame e X.env) (fun _ s₂ => wpAny (model X.prog X.w) X.A (setFlight e none)
    (fun _ s₃ => wpAny (model X.prog X.w) X.A (handleBy e X.env [.ExceptHandler (some (.Name x np)) (some n) (b₀ :: suite) pos']) (SP X pins D) X.xe s₃) X.xe s₂) X.xe s₁) (fun v s' xx => ?_) PassesOwn.looking).run [] s σ H D (I.toTry _) h) (fun f s1 hsp => ?_) (fun e s1 he => he)
  · obtain ⟨a, B, t, pins', σ', G, cls, d, rfl, J', nb, up, sky, na, os, ag, b, hb1, hyes, hno⟩ := xx
    have eb : b = true := by
      cases b with
      | true => rfl
      | false => exact (hno rfl).elim
    subst eb
    have J : Inv X pins σ' G t := J'.ofTry ok
    have sky' : Sky B (X.env :: X.outer) a (ZX B G cls d) X.env.locals s'.heap := hs ▸ sky
    show wpAny (model X.prog X.w) X.A (noteFrame (.ref a) X.env) _ _ _
    refine L2N.Sky.land ZX.steady hfr hf sky' fun h3 fl3 up3 => ?_
    have J3 : Inv X pins σ' G { s' with heap := h3 } := J.landed nb fl3.1 (up.trans up3) os ag
    obtain ⟨oe3, vs3, he3, hz3, hd3⟩ := fl3.there
    have nfr : a ∉ frs (X.env :: X.outer) := notFrame fl3.2.2.1 he3 hd3
    have inF : ∀ {y : Addr}, y ∉ frs (X.env :: X.outer) → y ≠ X.env.locals ∧ y ∉ X.fs := fun {y} ny => ⟨fun z => ny (List.mem_filterMap.mpr ⟨X.env, List.mem_cons_self, hf.trans (congrArg some z.symm)⟩),
      fun hm => let ⟨e, he, q⟩ := List.mem_filterMap.mp hm; ny (List.mem_filterMap.mpr ⟨e, List.mem_cons_of_mem _ he, q⟩)⟩
    have S3 := J3.suite he3 hd3 na (inF nfr).1 (inF nfr).2
    refine wpAny_handleBy_cons (codeAny_handlers_test ?_) (by intro q; cases q)
    have LT : PySem.W.Looks (model X.prog X.w) h3 (typeOf (.ref a)) cls := fun A Q E s k q => wpAny_typeOf_ref (k _ _ he3) (hz3.1.1.symm ▸ q)
    have LM := PySem.W.exm_one (M := model X.prog X.w) (J3.kIn) LT hb1
    have test : ∀ {Q : Value → Shared → Prop} {E : Value → Shared → Prop}, Q c { s' with heap := h3 } → wpAny (model X.prog X.w) (X.A.mark (some (.ref a))) (eval (.Name x np) X.env) Q E { s' with heap := h3 } := fun {Q E} q => by
      obtain ⟨hg, hdbg, hm | ⟨hm, hv, hnn⟩⟩ := hc
      · exact ld_glob S3 hg hm q hdbg
      · exact ld_blt S3 hg hm hv q hnn hdbg
    refine test (LM.here (codeAny_handlers_suite_as (HandSPX.lands_againZ fl3 fun h4 fl4 up4 => ?_)))
    obtain ⟨oe4, vs4, he4, hz4, hd4⟩ := fl4.there
    -- what its context is
    have ctx : ∃ tl : List (Addr × Obj), Ch (a, oe4) tl ∧ ∀ y ∈ tl, h4.get? y.1 = some y.2 ∧ G y.1 = none ∧ y.1 ≠ X.env.locals ∧ y.1 ∉ X.fs ∧ ∀ v, y.2.data ≠ .cell v := by
      rcases hz4.2 vs4 hd4 with z | ⟨y, y1, y2, y3, y4⟩
      · exact ⟨[], .inl ⟨rfl, vs4, hd4, z⟩, fun y hy => nomatch hy⟩
      · have nyf : y.1 ∉ frs (X.env :: X.outer) := fun hm => by
          have z := (fl4.2.2.1.mem hm).1
          rw [y2] at z
          cases z
        have nya : y.1 ≠ a := fun z => by
          have q := fl4.2.1
          rw [← z, y2] at q
          cases q
        refine ⟨[y], .inr ⟨y, vs4, rfl, hd4, y1, y3, nya⟩, fun z hz => ?_⟩
        obtain rfl : z = y := by simpa using hz
        obtain ⟨ws, e1, _⟩ := y3
        exact ⟨fl4.1 _ _ y2, y4, (inF nyf).1, (inF nyf).2, fun v q => by rw [e1] at q; cases q⟩
    obtain ⟨tl, hch, htl⟩ := ctx
    have J4 : Inv X (tl ++ pins) σ' G { s' with heap := h4 } := (J.landed (s' := { s' with heap := h4 }) nb fl4.1 ((up.trans up3).trans up4) os ag).pins_of fun y hy => by
      rcases List.mem_append.mp hy with z | z
      · exact htl y z
      · have J5 : Inv X pins σ' G { s' with heap := h4 } := J.landed nb fl4.1 ((up.trans up3).trans up4) os ag
        exact J5.pin y (List.mem_append_right _ z)
    have S4 := J4.suite he4 hd4 na (inF nfr).1 (inF nfr).2
    have dn : ∀ {σ6 : L2.St} {G6 : Hp} {s6 : Shared}, Inv (X.suite a ((a, oe4) :: (X.pn ++ (tl ++ pins)))) [] σ6 G6 s6 → Inv X pins σ6 G6 s6 := fun S6 => (S6.unsuite ok).pins_of fun y hy => (S6.unsuite ok).pin y (List.mem_append_right _ (List.mem_append_right _ hy))
    refine store_ok (X := X.suite a ((a, oe4) :: (X.pn ++ (tl ++ pins)))) (v := .ref a) S4 hN hi (.inl hln) rfl (fun s5 S5 => ?_) (.inr hln)
    refine wpAny_mono ((hsu a oe4 cls d tl (X.pn ++ (tl ++ pins)) hz4.1.1 hz4.1.2 ⟨_, hd4⟩ hch fun z hz => List.mem_append_right _ (List.mem_append_left _ hz)).run [] s5 _ G _ S5 (hyes rfl a na)) (fun f s6 hsp => ?_) (fun _ _ z => False.elim z)
    have end_ : ∀ {σ6 : L2.St} {G6 : Hp} {Q : Shared → Prop}, Inv (X.suite a ((a, oe4) :: (X.pn ++ (tl ++ pins)))) [] σ6 G6 s6 → (∀ s7, Inv X pins (σ6.set i none) G6 s7 → Q s7) →
        wpAny (model X.prog X.w) X.A (do bindName X.env n .none; unbindBehindTheSuite X.env n pos') (fun _ s7 => Q s7) X.xe s6 := fun S6 hq => gone_ok (dn S6) hN hi hln hq
    match f, hsp with
    | .next, ⟨σ6, G6, S6, q6⟩ => exact end_ S6 fun s7 J7 => ⟨_, _, J7, q6⟩
    | .brk, ⟨σ6, G6, S6, q6⟩ => exact end_ S6 fun s7 J7 => ⟨_, _, J7, q6⟩
    | .cont, ⟨σ6, G6, S6, q6⟩ => exact end_ S6 fun s7 J7 => ⟨_, _, J7, q6⟩
    | .ret _, ⟨v6, σ6, G6, S6, r6, q6⟩ => exact end_ S6 fun s7 J7 => ⟨_, _, _, J7, r6, q6⟩
  · match f, hsp with
    | .next, ⟨σ', G, J', q⟩ => exact wpAny_execs_nil ⟨σ', G, J'.ofTry ok, q⟩
    | .brk, ⟨σ', G, J', q⟩ => exact ⟨σ', G, J'.ofTry ok, q⟩
    | .cont, ⟨σ', G, J', q⟩ => exact ⟨σ', G, J'.ofTry ok, q⟩
    | .ret _, ⟨v, σ', G, J', r, q⟩ => exact ⟨v, σ', G, J'.ofTry ok, r, q⟩
end
end IL
namespace IL
open PySem PySem.Spec PyProof.Rows L2
/-! ### a def whose exceptions may have a context -/
structure FnZ (T : Gam) (ca : XC → Addr) (P : Program) (w : World) (K : PySem.W.Frag) (mg : Str → Option Value) (base : Heap) (k : Nat) (x : Str) (n : Nat) (g : List D → Res D) : Prop where
  ex : ∃ (f : Addr) (fd : FuncData) (ps : List Str), ps.length = n ∧ FnOk P w K mg base (CX3 P w) k f fd ps (SpD T ca K n g) ∧ mg x = some (.ref f) ∧ PySem.W.keepIn K (.ref f) = true ∧ L2.Binds K fd ps []
section
variable {T : Gam} {ca : XC → Addr} {X : Cx} {W : WX} {e : Expr} {es : List Expr} {pos : Pos} {ms : Env → Res (List D)}
theorem passAt3 {W : WX} (tk : Takes3 X W) (σ : L2.St) : PassesAt (CX3 X.prog X.w) X σ (WE W σ) := fun _ _ _ e s' I c => tk e s' (XE3.of_call I (fun _ _ _ h => h) c)
theorem ie_callZ {k j n : Nat} {x : Str} {p : Pos} {g : List D → Res D} (F : FnZ T ca X.prog X.w X.K X.mg X.base k x n g) (hr : Room j X.A) (hk : k ≤ j) (tk : Takes3 X W) (h : IA T ca X W (e :: es) ms) (hg : Gl X x := by rfl) (hdb : (x == ("__debug__" : Str)) = false := by decide)
    (he : starEach (e :: es) X.env = (false, eval e X.env) :: starEach es X.env := by rfl) (hpl : (backTo pos (starEach es X.env)).any (·.1) = false := by rfl) : IE T ca X W (.Call (.Name x p) (e :: es) [] pos) (mCallN n g ms) := by
  obtain ⟨f, fd, ps, hn, F', hm, kp, hb⟩ := F.ex
  refine ⟨pe_imp (pe_callS F' (hr.mono hk) hg hm kp hb (fun σ => passAt3 tk σ) h.pa hdb he hpl) fun σ H Q ⟨S, env, lv, rel, fin⟩ => ⟨S, env, lv, rel, Fin.bind (R' := Ra X.K S) fin fun ds vs H1 _ p1 r1 f1 => ?_⟩⟩
  split at f1
  · exact ⟨r1.length.trans (by assumption), S, ds, lv.le p1, r1, fin_W f1 fun c H' _ z => z⟩
  · exact f1.elim
/-- .. its good way alone -/
def okOnly (r : Res D) : Res D := match r with
  | .ok d => .ok d
  | _ => .stuck
theorem ie_callZok {k j n : Nat} {x : Str} {p : Pos} {g : List D → Res D} (F : FnZ T ca X.prog X.w X.K X.mg X.base k x n g) (hr : Room j X.A) (hk : k ≤ j) (h : IA T ca X W (e :: es) ms) (hg : Gl X x := by rfl) (hdb : (x == ("__debug__" : Str)) = false := by decide)
    (he : starEach (e :: es) X.env = (false, eval e X.env) :: starEach es X.env := by rfl) (hpl : (backTo pos (starEach es X.env)).any (·.1) = false := by rfl) : IE T ca X W (.Call (.Name x p) (e :: es) [] pos) (mCallN n (fun ds => okOnly (g ds)) ms) := by
  obtain ⟨f, fd, ps, hn, F', hm, kp, hb⟩ := F.ex
  refine ⟨pe_imp (pe_callS (E := fun _ _ _ _ => False) F' (hr.mono hk) hg hm kp hb (fun σ pins H s e s' I ⟨_, _, _, _, _, _, _, _, _, _, _, _, z⟩ => z.elim) h.pa hdb he hpl) fun σ H Q ⟨S, env, lv, rel, fin⟩ => ⟨S, env, lv, rel, Fin.bind (R' := Ra X.K S) fin fun ds vs H1 _ p1 r1 f1 => ?_⟩⟩
  split at f1
  · refine ⟨r1.length.trans (by assumption), S, ds, lv.le p1, r1, ?_⟩
    have f1 : Fin T ca (Rv X.K S) W σ H1 (okOnly (g ds)) Q := f1
    cases hg : g ds with
    | ok d => rw [hg] at f1; exact f1
    | exc c => rw [hg] at f1; exact f1.elim
    | stuck => rw [hg] at f1; exact f1.elim
  · exact f1.elim
end
theorem FnD.z_mono {T : Gam} {ca : XC → Addr} {P : Program} {w : World} {K : PySem.W.Frag} {mg : Str → Option Value} {base : Heap} {j k : Nat} {x : Str} {n : Nat} {g : List D → Res D} (F : FnZ T ca P w K mg base j x n g) (h : j ≤ k) : FnZ T ca P w K mg base k x n g :=
  let ⟨f, fd, ps, h0, h1, h2, h3, h4⟩ := F.ex; ⟨f, fd, ps, h0, h1.mono h, h2, h3, h4⟩
theorem fn_asZ {T : Gam} {ca : XC → Addr} {P : Program} {w : World} {K : PySem.W.Frag} {mg : Str → Option Value} {base : Heap} {x q : Str} {st : Stmt} {N ps : List Str} {k n : Nat} {m : Sv} (U : FunAs K mg x q st ps) (hn : ps.length = n) (S : FnScope N ps (defScope st))
    (hbody : ∀ (f : Addr) (cdv : Value) (A : Around) (outer : List PySem.Env) (s : Shared) (H : Hp) (E : XK), Room k (A.deeper (envOfC q (defScope st) s.heap.objs.size f cdv)) →
      ISs T ca (cxOf (CX3 P w) P w K mg base N q (defScope st) f cdv A outer s H E) (fun c d _ H => E c d H) (defBody st) m) : FnZ T ca P w K mg base (k + 1) x n fun ds => outR (m (startE N.length ds)) := by
  obtain ⟨f, fd, F, hm, hb⟩ := U.ex
  subst hn
  refine ⟨f, fd, ps, rfl, ?_, hm, F.kp, hb⟩
  obtain ⟨oc, od, kV, doc, pm, an, cdv, ct, osl, rfl, lk, hcd⟩ := F.ex
  refine fn_of lk hcd S (fun vs H Q E h => h.1) fun A outer s H vs Q E hr ⟨hl, S0, ds, lv, rr, fin⟩ => ⟨_, (hbody f cdv A outer s H E hr).ps, H, S0, [], startE N.length ds, start_rel lv rr, ?_⟩
  have fin : Fin T ca (Rv K S0) (fun c d _ H' => E c d H') [] H (outR (m (startE N.length ds))) Q := fin
  cases hm : m (startE N.length ds) with
  | nx e => rw [hm] at fin; exact fun os σ H' r => fin .non H' r.pe .non
  | ret d => rw [hm] at fin; exact fun v H' p r => fin v H' p r
  | exc c => rw [hm] at fin; exact fun σ H' p => fin H' p
  | brk e => rw [hm] at fin; exact fin.elim
  | ct e => rw [hm] at fin; exact fin.elim
  | stuck => rw [hm] at fin; exact fin.elim
/-! ### a lambda's body's context, its exceptions may have a context -/
def lamZ (X : Cx) (A : Around) (outer : List PySem.Env) (s : Shared) (H : Hp) (E : XK) (sc : Scope) (f c' : Addr) : Cx :=
  (LamX.lamCx X A outer s H E sc f c').wish fun e s' => wpAny (model X.prog X.w) (A.deeper (LamX.lamEnv X sc s.heap.objs.size f c')) (leaving (LamX.lamEnv X sc s.heap.objs.size f c') e) (fun _ s2 => CX3 X.prog X.w outer H s E e s2) (fun e' s2 => CX3 X.prog X.w outer H s E e' s2) s'
section
variable {T : Gam} {ca : XC → Addr} {X : Cx} {pins : List (Addr × Obj)} {σ : L2.St} {H : Hp} {s : Shared} {cs : List XC} {nm : XC → Str} {k : Nat}
theorem lamZ_takes3 {A : Around} {outer : List PySem.Env} {E : XK} {sc : Scope} {f c' : Addr} : Takes3 (lamZ X A outer s H E sc f c') (fun c d _ H => E c d H) :=
  takes3_of rfl rfl rfl rfl
theorem lamZ_takes {A : Around} {outer : List PySem.Env} {E : XK} {sc : Scope} {f c' : Addr} : L2N.Takes (lamZ X A outer s H E sc f c') (fun c d _ H => E c d H) := lamZ_takes3.takes
/-- a(), in the def that got the lambda -/
theorem pe_actZ {CXg : CXT} {Eg : XK} {Ng : List Str} {qg : Str} {sg : Scope} {g f c' : Addr} {cdg pm ctv : Value} {ar : Arguments} {b : Expr} {sc : Scope} {k i : Nat} {a : Str} {pn : List (Addr × Obj)} {xe : Value → Shared → Prop} {W : WX} {tb : XK → TE} {p1 p2 : Pos}
    (J : Inv X pins σ H s) (L : LamX.LamS X.env.scope sc) (hf : s.heap.get? f = some (PySem.W.kla_obj "<lambda>" (lq X) ar b sc (cloFrom X.env.cells sc.names []) pm c' ctv)) (hfn : H f = none) (hfr : f ∉ frs X.stack)
    (hbind : bindArgs (PySem.W.kla_fn "<lambda>" (lq X) ar b sc (cloFrom X.env.cells sc.names []) pm (.ref c') ctv) ⟨[], []⟩ = pure [])
    (tk : Takes3 ((cxOf CXg X.prog X.w X.K X.mg X.base Ng qg sg g cdg X.A X.stack s H Eg).tr pn xe) W) (hr : Room (k + 1) (X.A.deeper (envOfC qg sg s.heap.objs.size g cdg)))
    (hbody : ∀ (A : Around) (outer : List PySem.Env) (s : Shared) (H : Hp) (E : XK), Room k (A.deeper (LamX.lamEnv X sc s.heap.objs.size f c')) → PE (lamZ X A outer s H E sc f c') b (tb E))
    (hN : Ng[i]? = some a) (hv : Vis sg a) (hd : (a == ("__debug__" : Str)) = false := by decide) (hcd : (a == ("__classdict__" : Str)) = false := by decide) :
    PE ((cxOf CXg X.prog X.w X.K X.mg X.base Ng qg sg g cdg X.A X.stack s H Eg).tr pn xe) (.Call (.Name a p1) [] [] p2)
      (fun σZ HZ Q => ∃ E : XK, (∀ cls d H', E cls d H' → W cls d σZ H') ∧ σZ[i]? = some (some (.ref f)) ∧ HZ c' = some (LamX.CodeO c' (lq X)) ∧ tb E σ HZ Q) := by
  refine ⟨fun pinsZ sZ σZ HZ Q IZ ⟨E, hW, hs, hc, ht⟩ => ?_⟩
  refine wpAny_Call_Name_kw (thn ((pe_var (pos := p1) (i := i) hN hv hd hcd).run pinsZ sZ σZ HZ (fun v H1 => v = .ref f ∧ H1 = HZ) IZ ⟨.ref f, hs, rfl, rfl⟩) fun u s1 ⟨v, H1, J1, r1, ev, eH⟩ => ?_)
  subst ev eH
  obtain rfl : u = Value.ref f := r1
  have getf := J1.base.keep f _ hf hfn hfr (fun z => nomatch (show f ∈ ([] : List Addr) from z))
  obtain ⟨⟨oc, vs, t, hoc, hdc, hvc⟩, _, _⟩ := J1.hok c' _ hc
  refine PySem.W.callWith_F0 ⟨_, _, _, _, getf⟩ ?_
  have un : Un (frs X.stack) [] H H1 s.heap s1.heap := J1.base
  have rc : codeAny (model X.prog X.w) (X.A.deeper (envOfC qg sg s.heap.objs.size g cdg)) (.call (.ref f) ⟨[], []⟩) (CR (CX3 X.prog X.w) (envOfC qg sg s.heap.objs.size g cdg :: X.stack) X.prog X.w H1 s1 Q E) s1 := by
    refine PySem.W.kla_callFunE hr.depth getf rfl L.co L.gen rfl ⟨c', oc, vs, t, rfl, hoc, hdc, hvc⟩ ?_
    rw [hbind]
    refine wpAny_pure (wpAny_newFunctionEnv (fun y hy => (L.own y hy).2) (fun y hy => absurd hy (by simp)) (fun h₁ hns sb => ⟨J1.nolimit.fresh _ sb, ?_⟩) L.kind)
    have kp : ∀ b o, s1.heap.get? b = some o → h₁.get? b = some o := fun b o e => sb.extBut b o (Nat.ne_of_lt (Heap.lt_size e)) (Heap.get?_push_of_some _ e)
    have J2 := LamX.lam_start2 (E := E) (f := f) (c' := c') (tk := s1.toks + ([] : List (Str × Value)).length) J L J1.env0 hr.hd un hns kp
    have J3 := J2.wish fun e s' => wpAny (model X.prog X.w) ((X.A.deeper (envOfC qg sg s.heap.objs.size g cdg)).deeper (LamX.lamEnv X sc s1.heap.objs.size f c')) (leaving (LamX.lamEnv X sc s1.heap.objs.size f c') e) (fun _ s2 => CX3 X.prog X.w (envOfC qg sg s.heap.objs.size g cdg :: X.stack) H1 s1 E e s2) (fun e' s2 => CX3 X.prog X.w (envOfC qg sg s.heap.objs.size g cdg :: X.stack) H1 s1 E e' s2) s'
    refine PySem.W.kla_codeExpr (wpAny_mono ((hbody _ _ s1 H1 E (hr.deeper _)).run [] _ _ H1 Q J3 ht) (fun v s' ⟨w', H', J', rv, q⟩ => ?_) fun e s' hq => hq)
    exact ⟨w', H', J'.os, J'.bare, J'.base, J'.hok, rv, q⟩
  refine wpAny_call (codeAny_mono rc fun r s' hq => ?_)
  match r, hq with
  | .error e, hq => exact tk e s' (XE3.of_call J1 (fun cls d H' h => hW cls d H' h) hq)
  | .ok (.ret u), hq => exact J1.after hq
/-- the def that calls a lambda and tells the refusal's word -/
structure ToldG (cs : List XC) (T : Gam) (ca : XC → Addr) (nm : XC → Str) (P : Program) (w : World) (K : PySem.W.Frag) (mg : Str → Option Value) (base : Heap) (k : Nat) (x le wd : Str) (st : Stmt) (Ng : List Str) (a y : Str) : Prop where
  F : ∃ g fd, L2.Fun K x x st g fd ∧ mg x = some (.ref g) ∧ Binds K fd [a] []
  S : FnScope Ng [a] (defScope st)
  N : Ng = [a, y]
  va : Vis (defScope st) a
  ky : (defScope st).names.lookup y = some .local
  kle : (defScope st).names.lookup le = some .globalImplicit
  kwd : (defScope st).names.lookup wd = some .globalImplicit
  body : ∃ p1 p2 p3 p4 p5 p6 p7 p8 p9 p10, defBody st = [.Try [.Return (some (.Call (.Name a p1) [] [] p2)) p3] [.ExceptHandler (some (.Name le p4)) (some y) [.Return (some (.Call (.Name wd p5) [.Name y p6] [] p7)) p8] p9] [] [] p10]
  dbg : (x == ("__debug__" : Str)) = false ∧ (le == ("__debug__" : Str)) = false ∧ (wd == ("__debug__" : Str)) = false ∧ (a == ("__debug__" : Str)) = false ∧ (y == ("__debug__" : Str)) = false
  cld : (a == ("__classdict__" : Str)) = false ∧ (y == ("__classdict__" : Str)) = false
  gle : ∃ CS, mg le = some (.ref CS) ∧ ∀ c ∈ cs, PySem.W.exmOne K (.ref (ca c)) (.ref CS) = some true
  W : ∃ g fd ps, FnWG cs T ca nm P w K mg base k g fd ps ∧ ps.length = 1 ∧ mg wd = some (.ref g) ∧ PySem.W.keepIn K (.ref g) = true ∧ Binds K fd ps []
/-- x(lambda: b) -/
theorem ie_toldG {W : WX} {c P : Addr} {j : Nat} {x le wd a y : Str} {st : Stmt} {Ng : List Str} {ar : Arguments} {b : Expr} {sc : Scope} {m : Ev} {p lp pos : Pos} (D : ToldG cs T ca nm X.prog X.w X.K X.mg X.base k x le wd st Ng a y) (B : LamX.TabB X.base X.mg c P) (hcode : X.env.code = .ref c)
    (hin : (P, lq X) ∈ T.tabs) (hone : ∀ p ∈ T.tabs, p.1 = P → p.2 = lq X) (hr : Room (j + 2) X.A) (hkj : k ≤ j + 1) (hcl : LamX.lamSB X.env.scope sc = true) (hdef : defaultsOf ar X.env = ([], []))
    (hbind : ∀ (q : Str) (cl : List (Str × Addr)) (pm cv ctv : Value), bindArgs (PySem.W.kla_fn "<lambda>" q ar b sc cl pm cv ctv) ⟨[], []⟩ = pure [])
    (hbody : ∀ (A : Around) (outer : List PySem.Env) (s : Shared) (H : Hp) (E : XK) (f c' : Addr), Room j (A.deeper (LamX.lamEnv X sc s.heap.objs.size f c')) → IE T ca (lamZ X A outer s H E sc f c') (fun c d _ H => E c d H) b m) (hg : Gl X x) :
    IE T ca X W (.Call (.Name x p) [.Lambda ar b sc lp] [] pos) (mTold cs nm m) := by
  have L := LamX.lamS_by hcl
  obtain ⟨g, fd, F, hm, hb⟩ := D.F
  obtain ⟨oc, od, kV, doc, pm0, an, cdv, ct, osl, rfl, lk, hcg⟩ := F.ex
  obtain ⟨p1, p2, p3, p4, p5, p6, p7, p8, p9, p10, eb⟩ := D.body
  obtain ⟨CS, hle, hex⟩ := D.gle
  obtain ⟨gw, fw, psw, FW, hps, hmw, hkw, hbw⟩ := D.W
  obtain ⟨db1, db2, db3, db4, db5⟩ := D.dbg
  have hNg := D.N
  refine ⟨⟨fun pins s σ H Q I ⟨S, env, lv, rel, fin⟩ => ?_⟩⟩
  refine wpAny_Call_Name_kw (ld_glob I hg hm ?_ db1)
  refine PySem.W.callWith_K (h₀ := X.base) I.ok.mod.kin F.kp ?_ (by rfl) (by rfl)
  refine Calls.spliced_cons (lam_new I B hcode hin hone lv.tb hdef (L.has I.ok) fun f c' pm ctv H1 s' I1 pe hf hfn hfr hco => ?_)
  refine Calls.spliced_nil ⟨I1.kIn, ?_⟩
  have lv1 := lv.le pe
  have rel1 := rel.le pe
  have fin1 : Fin T ca (Rv X.K S) W σ H1 (mTold cs nm m env) Q := fin.le pe
  have rc : codeAny (model X.prog X.w) X.A (.call (.ref g) ⟨[.ref f], []⟩) (CR C8.CX0 X.stack X.prog X.w H1 s' Q C8.E0) s' := by
    refine LamX.run_ofS (N := Ng) (ps := [a]) (us := [.ref f]) (vs := [.ref f]) lk hcg D.S hr I1.env0 (hb s' [.ref f] I1.kIn rfl) (.cons rfl .nil) rfl fun hr' => ?_
    subst hNg
    rw [eb]
    refine ⟨_, pss_one (ps_tryAs (i := 1) (n := y) (c := .ref CS) rfl rfl D.S.nd rfl D.ky ⟨D.kle, db2, .inl hle⟩
      (fun W pn xe tk _ => pss_one (ps_ret (pe_actZ (i := 0) (tb := fun E => tI T ca X.K (fun c d _ H => E c d H) m) I1 L hf hfn hfr (hbind _ _ _ _ _) tk hr' (fun A outer s H E hr2 => (hbody A outer s H E f c' hr2).pe) rfl D.va db4 D.cld.1)))
      (fun a' oe cls d tl pn h1 h2 h3 h4 h5 => pss_one (ps_ret (pe_wordG (X := cxOf C8.CX0 X.prog X.w X.K X.mg X.base [a, y] x (defScope st) g cdv X.A X.stack s' H1 C8.E0) (i := 1) FW hps (L2H.RoomH.mono (L2H.roomH_of hr') hkj) h1 h2 h3 h4 h5 D.kwd hmw hkw hbw rfl (.inl D.ky) db3 db5 D.cld.2 (by rfl) (by rfl))))), ?_⟩
    refine ⟨fun cls d H' => ∃ c S, cls = .ref (ca c) ∧ d = none ∧ c ∈ cs ∧ Live T S H' ∧ ∀ v H2, Pe T H' H2 → Rp X.K (hide S H2) v (refused nm c) → Q v H2, fun cls d H' ⟨c, S, e1, e2, hcs, lv', hq⟩ => ⟨true, by rw [e1]; exact hex c hcs, fun _ a' _ => ⟨rfl, c, S, e1, e2, hcs, lv', hq⟩, fun z => by cases z⟩, rfl, hco, S, env, lv1, rel1, ?_⟩
    unfold mTold at fin1
    cases hm : m env with
    | ok d => rw [hm] at fin1; exact fin1
    | exc c =>
      rw [hm] at fin1
      dsimp only at fin1
      split at fin1
      · rename_i hcs
        exact fun H' p' => ⟨c, S, rfl, rfl, hcs, lv1.le p', fun v H2 p2 r => fin1 v H2 (p'.trans p2) r⟩
      · exact fin1.elim
    | stuck => rw [hm] at fin1; exact fin1
  refine wpAny_call (codeAny_mono rc fun r s2 hq => ?_)
  match r, hq with
  | .error e, hq => exact (show False from hq).elim
  | .ok (.ret u), hq => exact I1.after hq
end
end IL
namespace IL
open PySem PySem.Spec PyProof.Rows L2
/-! ### a class whose instances read a list of words: methods that move a place -/
abbrev rdI (C dx wl : Addr) (i : Nat) : HO := .ins C dx [("words", .ref wl), ("spot", .int (i : Int))]
/-- all but a stays -/
structure Pa (T : Gam) (a : Addr) (H H' : Hp) : Prop where
  st : ∀ b o, b ≠ a → H b = some o → isTbl o = false → H' b = some o
  fr : ∀ b, H' b = none → H b = none
  tb : TabC T H → TabC T H'
section
variable {T : Gam} {K : PySem.W.Frag} {a : Addr} {S : List Addr} {H H1 H2 : Hp}
theorem Pe.pa (p : Pe T H H1) : Pa T a H H1 := ⟨fun b o _ => p.st b o, p.fr, p.tb⟩
theorem Pa.refl : Pa T a H H := Pe.pa .refl
theorem Pa.trans (p : Pa T a H H1) (q : Pa T a H1 H2) : Pa T a H H2 := ⟨fun b o n e i => q.st b o n (p.st b o n e i) i, fun b e => p.fr b (q.fr b e), fun t => q.tb (p.tb t)⟩
theorem Pa.upd {w v : HO} (h : H a = some w) (h1 : isTbl w = false) (h2 : fixO w = false) : Pa T a H (upd H a v) :=
  ⟨fun b o n e _ => (upd_ne n).trans e, fun b e => by
    by_cases hb : b = a
    · rw [hb, upd_same] at e; cases e
    · rwa [upd_ne hb] at e, fun t => t.upd h h1 h2⟩
theorem Pa.rd (p : Pa T a H H1) : RdLe (hide (a :: S) H) (hide (a :: S) H1) := by
  have k : ∀ {b : Addr} {o : HO}, hide (a :: S) H b = some o → isTbl o = false → hide (a :: S) H1 b = some o := fun {b o} e i => by
    obtain ⟨h1, h2⟩ := hide_some e
    exact (hide_in h1).trans (p.st b o (fun z => h1 (z ▸ List.mem_cons_self)) h2 i)
  exact ⟨fun b u hu r => r.imp (fun e => k e (isTbl_of_rd hu)) fun ⟨o, e⟩ => ⟨o, k e rfl⟩, fun b o ho e => k e (isTbl_of_rigid ho)⟩
end
abbrev SRe := Env → Nat → Res (D × Nat)
/-- where things stand -/
structure RelR (T : Gam) (K : PySem.W.Frag) (C : Addr) (ws : List Str) (S : List Addr) (a dx wl : Addr) (env : Env) (i : Nat) (σ : L2.St) (H : Hp) : Prop where
  ob : H a = some (rdI C dx wl i)
  nw : wl ∉ S
  wl : H wl = some (.lst (ws.map V.str))
  lv : Live T (a :: S) H
  sf : σ[0]? = some (some (.ref a))
  rel : RelE K (hide (a :: S) H) env σ
def FinR (T : Gam) (ca : XC → Addr) (K : PySem.W.Frag) (C : Addr) (S : List Addr) (a dx wl : Addr) (W : WX) (σ : L2.St) (H : Hp) (r : Res (D × Nat)) (Q : VK) : Prop :=
  match r with
  | .ok (d, i) => ∀ v H', Pa T a H H' → H' a = some (rdI C dx wl i) → Rp K (hide (a :: S) H') v d → Q v H'
  | .exc c => ∀ H', Pa T a H H' → W (.ref (ca c)) none σ H'
  | .stuck => False
def tR (T : Gam) (ca : XC → Addr) (K : PySem.W.Frag) (C : Addr) (ws : List Str) (W : WX) (m : SRe) : TE := fun σ H Q => ∃ S a dx wl env i, RelR T K C ws S a dx wl env i σ H ∧ FinR T ca K C S a dx wl W σ H (m env i) Q
structure IR (T : Gam) (ca : XC → Addr) (X : Cx) (C : Addr) (ws : List Str) (W : WX) (e : Expr) (m : SRe) : Prop where
  pe : PE X e (tR T ca X.K C ws W m)
/-- a method: args after self, the words and the place -/
def SpR (T : Gam) (ca : XC → Addr) (K : PySem.W.Frag) (C : Addr) (n : Nat) (g : List Str → List D → Nat → Res (D × Nat)) : Sp := fun vs H Q E => vs.length = n ∧ ∃ ws S a dx wl i xs ds, vs = .ref a :: xs ∧
  H a = some (rdI C dx wl i) ∧ H wl = some (.lst (ws.map V.str)) ∧ Live T (a :: S) H ∧ wl ∉ S ∧ RpAll K (hide (a :: S) H) xs ds ∧ FinR T ca K C S a dx wl (fun c d _ H' => E c d H') [] H (g ws ds i) Q
structure FnR1 (T : Gam) (ca : XC → Addr) (P : Program) (w : World) (K : PySem.W.Frag) (mg : Str → Option Value) (base : Heap) (k : Nat) (C : Addr) (m : Str) (n : Nat) (g : List Str → List D → Nat → Res (D × Nat)) : Prop where
  ex : ∃ (f : Addr) (fd : FuncData) (ps : List Str), ps.length = n ∧ FnOk P w K mg base (L2N.CX P w) k f fd ps (SpR T ca K C n g) ∧ Meth K C m f ∧ L2.Binds K fd ps []
def r0 (m : Ev) : SRe := fun env i => (m env).bind fun d => .ok (d, i)
def rBind (r : Res (D × Nat)) (k : D → Nat → Res (D × Nat)) : Res (D × Nat) := r.bind fun p => k p.1 p.2
section
variable {T : Gam} {ca : XC → Addr} {X : Cx} {C : Addr} {ws : List Str} {W : WX} {e a b o : Expr} {es : List Expr} {pos apos p2 : Pos} {m : SRe} {ma mb : Ev} {ms : Env → Res (List D)} {S : List Addr} {x dx wl : Addr} {env : Env} {i : Nat} {σ : L2.St} {H H1 : Hp} {Q : VK}
theorem RelR.le (r : RelR T X.K C ws S x dx wl env i σ H) {j : Nat} (p : Pa T x H H1) (h : H1 x = some (rdI C dx wl j)) : RelR T X.K C ws S x dx wl env j σ H1 where
  ob := h
  nw := r.nw
  wl := p.st wl _ (fun z => by have q := r.wl; rw [z, r.ob] at q; cases q) r.wl rfl
  lv := ⟨fun b hb => by
    by_cases e : b = x
    · rw [e]; exact ⟨_, h, rfl⟩
    · obtain ⟨u, h1, h2⟩ := r.lv.own b hb
      exact ⟨u, p.st b u e h1 (isTbl_of_own h2), h2⟩, p.tb r.lv.tb⟩
  sf := r.sf
  rel := ⟨r.rel.len, fun j d e => let ⟨v, h1, h2⟩ := r.rel.at_ j d e; ⟨v, h1, h2.le p.rd⟩⟩
theorem RelR.pe (r : RelR T X.K C ws S x dx wl env i σ H) (p : Pe T H H1) : RelR T X.K C ws S x dx wl env i σ H1 := r.le p.pa (p.st _ _ r.ob rfl)
theorem FinR.le {r : Res (D × Nat)} (f : FinR T ca X.K C S x dx wl W σ H r Q) (p : Pa T x H H1) : FinR T ca X.K C S x dx wl W σ H1 r Q := by
  match r, f with
  | .ok (d, j), f => exact fun v H' q => f v H' (p.trans q)
  | .exc c, f => exact fun H' q => f H' (p.trans q)
/-- what an expression without the place leaves -/
theorem FinR.fin {r : Res D} {k : D → Res (D × Nat)} {Q' : VK} (f : FinR T ca X.K C S x dx wl W σ H (r.bind k) Q) (h : ∀ d v H1, Pe T H H1 → Rp X.K (hide (x :: S) H1) v d → FinR T ca X.K C S x dx wl W σ H1 (k d) Q → Q' v H1) : Fin T ca (Rv X.K (x :: S)) W σ H r Q' := by
  cases r with
  | ok d => exact fun v H1 p rr => h d v H1 p rr (FinR.le (X := X) (r := k d) f p.pa)
  | exc c => exact fun H1 p => f H1 p.pa
  | stuck => exact f
theorem FinR.bind {r : Res (D × Nat)} {k : D → Nat → Res (D × Nat)} {Q' : VK} (f : FinR T ca X.K C S x dx wl W σ H (rBind r k) Q)
    (h : ∀ d j v H1, Pa T x H H1 → H1 x = some (rdI C dx wl j) → Rp X.K (hide (x :: S) H1) v d → FinR T ca X.K C S x dx wl W σ H1 (k d j) Q → Q' v H1) : FinR T ca X.K C S x dx wl W σ H r Q' := by
  match r, f with
  | .ok (d, j), f => exact fun v H1 p h1 rr => h d j v H1 p h1 rr (FinR.le (X := X) (r := k d j) f p)
  | .exc c, f => exact f
theorem ir_ie (h : IE T ca X W e ma) : IR T ca X C ws W e (r0 ma) :=
  ⟨pe_imp h.pe fun σ H Q ⟨S, x, dx, wl, env, i, r, f⟩ => ⟨x :: S, env, r.lv, r.rel, f.fin fun d v H1 p rr f1 => f1 v H1 .refl (p.st _ _ r.ob rfl) rr⟩⟩
/-- f(e), f without the place -/
def rCall1 (g : List D → Res D) (m : SRe) : SRe := fun env i => rBind (m env i) fun d j => (g [d]).bind fun z => .ok (z, j)
theorem ir_call1 {k j : Nat} {y : Str} {p : Pos} {g : List D → Res D} (F : FnD T ca X.prog X.w X.K X.mg X.base k y 1 g) (hr : Room j X.A) (hk : k ≤ j) (tk : L2N.Takes X W) (h : IR T ca X C ws W e m) (hg : Gl X y := by rfl) (hdb : (y == ("__debug__" : Str)) = false := by decide)
    (he : starEach [e] X.env = (false, eval e X.env) :: starEach [] X.env := by rfl) (hpl : (backTo pos (starEach [] X.env)).any (·.1) = false := by rfl) : IR T ca X C ws W (.Call (.Name y p) [e] [] pos) (rCall1 g m) := by
  obtain ⟨f, fd, ps, hn, F', hm, kp, hb⟩ := F.ex
  refine ⟨pe_imp (pe_callS F' (hr.mono hk) hg hm kp hb (fun σ => L2N.passAt tk σ) (pa_cons h.pe pa_nil he) hdb he hpl) fun σ H Q ⟨S, x, dx, wl, env, i, r, f⟩ => ⟨S, x, dx, wl, env, i, r, f.bind fun d j v H1 p h1 rr f1 => ?_⟩⟩
  have r1 := r.le p h1
  refine ⟨rfl, x :: S, [d], r1.lv, .cons rr .nil, fin_W (f1.fin fun z u H2 p2 rz f2 => f2 u H2 .refl (p2.st _ _ h1 rfl) rz) fun c H' _ z => z⟩
/-- e == b, b without the place -/
def rOp (g : D → D → Option D) (m : SRe) (mb : Ev) : SRe := fun env i => rBind (m env i) fun d j => (mb env).bind fun c => (ofO (g d c)).bind fun z => .ok (z, j)
theorem ir_cmp {op : CmpOp} {r : R2} {g : D → D → Option D} (ho : OpR X (compareOp op) r) (hr : Imp2 T X.K r g) (ha : IR T ca X C ws W a m) (hb : IE T ca X W b mb) (hm : behindInMarks op b = false := by first | exact nomark _ | rfl) : IR T ca X C ws W (.Compare a [op] [b] pos) (rOp g m mb) :=
  ⟨pe_imp (pe_cmpR ho ha.pe hb.pe hm) fun σ H Q ⟨S, x, dx, wl, env, i, r, f⟩ => ⟨S, x, dx, wl, env, i, r, f.bind fun d j v H1 p h1 rr f1 => by
    have r1 := r.le p h1
    refine ⟨x :: S, env, r1.lv, r1.rel, f1.fin fun c u H2 p2 ru f2 => ?_⟩
    cases hz : g d c with
    | none => rw [hz] at f2; exact f2.elim
    | some z =>
      rw [hz] at f2
      exact hr (x :: S) v u d c z H2 Q (r1.pe p2).lv (rr.le p2.rd) ru hz fun y H3 p3 r3 => f2 y H3 p3.pa ((p2.trans p3).st _ _ h1 rfl) r3⟩⟩
/-- argument lists whose last one moves the place -/
def FinRA (T : Gam) (ca : XC → Addr) (K : PySem.W.Frag) (C : Addr) (S : List Addr) (a dx wl : Addr) (W : WX) (σ : L2.St) (H : Hp) (r : Res (List D × Nat)) (Q : List V → Hp → Prop) : Prop :=
  match r with
  | .ok (d, i) => ∀ v H', Pa T a H H' → H' a = some (rdI C dx wl i) → RpAll K (hide (a :: S) H') v d → Q v H'
  | .exc c => ∀ H', Pa T a H H' → W (.ref (ca c)) none σ H'
  | .stuck => False
def tRA (T : Gam) (ca : XC → Addr) (K : PySem.W.Frag) (C : Addr) (ws : List Str) (W : WX) (m : Env → Nat → Res (List D × Nat)) : TA := fun σ H Q => ∃ S a dx wl env i, RelR T K C ws S a dx wl env i σ H ∧ FinRA T ca K C S a dx wl W σ H (m env i) Q
structure IRA (T : Gam) (ca : XC → Addr) (X : Cx) (C : Addr) (ws : List Str) (W : WX) (es : List Expr) (m : Env → Nat → Res (List D × Nat)) : Prop where
  pa : PA X es (tRA T ca X.K C ws W m)
def raOne (m : SRe) : Env → Nat → Res (List D × Nat) := fun env i => (m env i).bind fun p => .ok ([p.1], p.2)
def raCons (ma : Ev) (m : Env → Nat → Res (List D × Nat)) : Env → Nat → Res (List D × Nat) := fun env i => (ma env).bind fun d => (m env i).bind fun p => .ok (d :: p.1, p.2)
theorem ira_one (h : IR T ca X C ws W e m) (he : starEach [e] X.env = (false, eval e X.env) :: starEach [] X.env := by rfl) : IRA T ca X C ws W [e] (raOne m) :=
  ⟨pa_imp (pa_cons h.pe pa_nil he) fun σ H Q ⟨S, x, dx, wl, env, i, r, f⟩ => ⟨S, x, dx, wl, env, i, r, by
    unfold raOne at f
    match hm : m env i with
    | .ok (d, j) => rw [hm] at f; exact fun v H' p h1 rr => f [v] H' p h1 (.cons rr .nil)
    | .exc c => rw [hm] at f; exact f
    | .stuck => rw [hm] at f; exact f⟩⟩
theorem ira_cons {m : Env → Nat → Res (List D × Nat)} (ha : IE T ca X W a ma) (h : IRA T ca X C ws W es m) (he : starEach (a :: es) X.env = (false, eval a X.env) :: starEach es X.env := by rfl) : IRA T ca X C ws W (a :: es) (raCons ma m) :=
  ⟨pa_imp (pa_cons ha.pe h.pa he) fun σ H Q ⟨S, x, dx, wl, env, i, r, f⟩ => ⟨x :: S, env, r.lv, r.rel, by
    unfold raCons at f
    cases hm : ma env with
    | ok d =>
      rw [hm] at f
      have f : FinRA T ca X.K C S x dx wl W σ H ((m env i).bind fun p => .ok (d :: p.1, p.2)) Q := f
      intro v H1 p1 rv
      refine ⟨S, x, dx, wl, env, i, r.pe p1, ?_⟩
      match hm2 : m env i with
      | .ok (ds, j) => rw [hm2] at f; exact fun vs H2 p2 h2 rr => f (v :: vs) H2 (p1.pa.trans p2) h2 (.cons (rv.le p2.rd) rr)
      | .exc c => rw [hm2] at f; exact fun H2 p2 => f H2 (p1.pa.trans p2)
      | .stuck => rw [hm2] at f; exact f
    | exc c => rw [hm] at f; exact fun H1 p => f H1 p.pa
    | stuck => rw [hm] at f; exact f⟩⟩
def rTup (m : Env → Nat → Res (List D × Nat)) : SRe := fun env i => (m env i).bind fun p => (ofO (gTup p.1)).bind fun z => .ok (z, p.2)
theorem ir_tup {x1} {m : Env → Nat → Res (List D × Nat)} (h : IRA T ca X C ws W es m) : IR T ca X C ws W (.Tuple es x1 pos) (rTup m) :=
  ⟨pe_imp (pe_tup h.pa) fun σ H Q ⟨S, x, dx, wl, env, i, r, f⟩ => ⟨S, x, dx, wl, env, i, r, by
    unfold rTup at f
    match hm : m env i with
    | .ok (ds, j) =>
      rw [hm] at f
      intro vs H1 p1 h1 rr
      have f : FinR T ca X.K C S x dx wl W σ H ((ofO (gTup ds)).bind fun z => .ok (z, j)) Q := f
      unfold gTup at f
      split at f
      · rename_i hb
        refine ⟨by rw [rr.length]; exact big_ok hb, fun q hq => ?_⟩
        have pn : Pe T H1 (upd H1 q (.tup vs)) := .new hq
        exact f _ _ (p1.trans pn.pa) (pn.st _ _ h1 rfl) (.tup (((r.le p1 h1).lv).new hq) (RpAll.le pn.rd rr))
      · exact f.elim
    | .exc c => rw [hm] at f; exact f
    | .stuck => rw [hm] at f; exact f⟩⟩
/-! methods -/
structure RdC (K : PySem.W.Frag) (C : Addr) : Prop where
  cls : Cls K C
  noW : NoAttr K C "words"
  noS : NoAttr K C "spot"
def rMeth (g : List Str → List D → Nat → Res (D × Nat)) (ws : List Str) (ms : Env → Res (List D)) : SRe := fun env i => (ms env).bind fun ds => g ws ds i
theorem ir_meth {k j n : Nat} {y : Str} {pl : Sem Bool} {q : Pos} {self : Str} {g : List Str → List D → Nat → Res (D × Nat)} (L : RdC X.K C) (F : FnR1 T ca X.prog X.w X.K X.mg X.base k C y n g) (hr : Room j X.A) (hk : k ≤ j) (tk : L2N.Takes X W) (ha : IA T ca X W (e :: es) ms)
    (hlen : ∀ env ds, ms env = .ok ds → ds.length + 1 = n)
    (hN : X.N[0]? = some self := by rfl) (hv : Vis X.env.scope self := by first | exact Or.inl rfl | exact Or.inr (Or.inl rfl) | exact Or.inr (Or.inr rfl)) (hd : (self == ("__debug__" : Str)) = false := by decide) (hcd : (self == ("__classdict__" : Str)) = false := by decide)
    (hm : ([("words", V.non), ("spot", V.non)] : List (Str × V)).lookup y = none := by rfl)
    (hst : starEach (e :: es) X.env = (false, eval e X.env) :: starEach es X.env := by rfl) (hpl : (backTo pos (starEach es X.env)).any (·.1) = false := by rfl)
    (ht : eval (.Call (.Attribute (.Name self q) y apos) (e :: es) [] pos) X.env = (do
      let ov ← eval (.Name self q) X.env
      standAt apos.atName
      let (f, first) ← holding [ov] (getMethod ov y pl)
      callWith pos f first (backTo pos (starEach (e :: es) X.env)) (backToKw pos (keywordEach [] X.env))) := by rfl) :
    IR T ca X C ws W (.Call (.Attribute (.Name self q) y apos) (e :: es) [] pos) (rMeth g ws ms) := by
  obtain ⟨f, fd, ps, hn, F', M, hb⟩ := F.ex
  refine ⟨⟨fun pins s σ H Q I ⟨S, x, dx, wl, env, i, r, fin⟩ => ?_⟩⟩
  have hfs : ([("words", V.ref wl), ("spot", .int (i : Int))] : List (Str × V)).lookup y = none := by
    simp only [List.lookup] at hm ⊢
    revert hm
    repeat' split
    all_goals first | (intro h; cases h; done) | (intro _; rfl)
  refine PySem.W.methodCall_KW (pl := pl) (thn ((pe_var (pos := q) (i := 0) hN hv hd hcd).run pins s σ H (fun v H1 => v = .ref x ∧ H1 = H) I ⟨_, r.sf, rfl, rfl⟩) fun u s1 ⟨v, H1, I1, rx, e1, e2⟩ => ?_) ht
  subst e1 e2
  obtain rfl : u = Value.ref x := rx
  refine getmeth_ok I1 r.ob L.cls M hfs ?_
  refine PySem.W.callWith_K (first := [.ref x]) (h₀ := X.base) I.ok.mod.kin M.kp (thn (ha.pa.run pos pins s1 σ H1 (fun vs H2 => SpR T ca X.K C n g (.ref x :: vs) H2 Q (WE W σ)) I1 ⟨x :: S, env, r.lv, r.rel, ?_⟩) fun us s2 ⟨vs, H2, I2, r2, q2⟩ => ⟨I2.kIn, ?_⟩) hst hpl
  · unfold rMeth at fin
    cases hms : ms env with
    | ok ds =>
      rw [hms] at fin
      intro vs H2 p2 rr
      have fin : FinR T ca X.K C S x dx wl W σ H1 (g ws ds i) Q := fin
      have r2 := r.pe p2
      refine ⟨by rw [List.length_cons, rr.length]; exact hlen env ds hms, ws, S, x, dx, wl, i, vs, ds, rfl, r2.ob, r2.wl, r2.lv, r2.nw, rr, ?_⟩
      match hg : g ws ds i with
      | .ok (d, j) => rw [hg] at fin; exact fun v H' p => fin v H' (p2.pa.trans p)
      | .exc c => rw [hg] at fin; exact fun H' p => fin H' (p2.pa.trans p)
      | .stuck => rw [hg] at fin; exact fin
    | exc c => rw [hms] at fin; exact fun H' p => fin H' p.pa
    | stuck => rw [hms] at fin; exact fin
  · exact run_fnS (E := WE W) (us := .ref x :: us) (vs := .ref x :: vs) F' (hr.mono hk) hb (L2N.passAt tk σ) I2 (.cons rfl r2) q2
theorem ir_meth0 {k j : Nat} {y : Str} {pl : Sem Bool} {q : Pos} {self : Str} {g : List Str → List D → Nat → Res (D × Nat)} (L : RdC X.K C) (F : FnR1 T ca X.prog X.w X.K X.mg X.base k C y 1 g) (hr : Room j X.A) (hk : k ≤ j) (tk : L2N.Takes X W)
    (hN : X.N[0]? = some self := by rfl) (hv : Vis X.env.scope self := by first | exact Or.inl rfl | exact Or.inr (Or.inl rfl) | exact Or.inr (Or.inr rfl)) (hd : (self == ("__debug__" : Str)) = false := by decide) (hcd : (self == ("__classdict__" : Str)) = false := by decide)
    (hm : ([("words", V.non), ("spot", V.non)] : List (Str × V)).lookup y = none := by rfl)
    (ht : eval (.Call (.Attribute (.Name self q) y apos) [] [] pos) X.env = (do
      let ov ← eval (.Name self q) X.env
      standAt apos.atName
      let (f, first) ← holding [ov] (getMethod ov y pl)
      callWith pos f first (backTo pos (starEach [] X.env)) (backToKw pos (keywordEach [] X.env))) := by rfl) :
    IR T ca X C ws W (.Call (.Attribute (.Name self q) y apos) [] [] pos) (fun _ i => g ws [] i) := by
  obtain ⟨f, fd, ps, hn, F', M, hb⟩ := F.ex
  refine ⟨⟨fun pins s σ H Q I ⟨S, x, dx, wl, env, i, r, fin⟩ => ?_⟩⟩
  have hfs : ([("words", V.ref wl), ("spot", .int (i : Int))] : List (Str × V)).lookup y = none := by
    simp only [List.lookup] at hm ⊢
    revert hm
    repeat' split
    all_goals first | (intro h; cases h; done) | (intro _; rfl)
  refine PySem.W.methodCall_KW (pl := pl) (thn ((pe_var (pos := q) (i := 0) hN hv hd hcd).run pins s σ H (fun v H1 => v = .ref x ∧ H1 = H) I ⟨_, r.sf, rfl, rfl⟩) fun u s1 ⟨v, H1, I1, rx, e1, e2⟩ => ?_) ht
  subst e1 e2
  obtain rfl : u = Value.ref x := rx
  refine getmeth_ok I1 r.ob L.cls M hfs ?_
  exact PySem.W.callWith_K0 (first := [.ref x]) I1.kIn M.kp (run_fnS (E := WE W) (us := [.ref x]) (vs := [.ref x]) F' (hr.mono hk) hb (L2N.passAt tk σ) I1 (.cons rfl .nil) ⟨rfl, ws, S, x, dx, wl, i, [], [], rfl, r.ob, r.wl, r.lv, r.nw, .nil, fin⟩)
end
end IL
namespace IL
open PySem PySem.Spec PyProof.Rows L2
/-! ### statements that move a place -/
inductive OutR where
  | nx (env : Env) (i : Nat) | ret (d : D) (i : Nat) | exc (c : XC) | stuck
abbrev SvR := Env → Nat → OutR
def EndR (T : Gam) (ca : XC → Addr) (K : PySem.W.Frag) (C : Addr) (ws : List Str) (W : WX) (D : Ends) (H0 : Hp) (S : List Addr) (a dx wl : Addr) (r : OutR) : Prop :=
  match r with
  | .nx env i => ∀ σ H, Pa T a H0 H → RelR T K C ws S a dx wl env i σ H → D.nx σ H
  | .ret d i => ∀ v H, Pa T a H0 H → H a = some (rdI C dx wl i) → Rp K (hide (a :: S) H) v d → D.rt v H
  | .exc c => ∀ σ H, Pa T a H0 H → W (.ref (ca c)) none σ H
  | .stuck => False
def tSR (T : Gam) (ca : XC → Addr) (K : PySem.W.Frag) (C : Addr) (ws : List Str) (W : WX) (m : SvR) : TS := fun D σ H => ∃ H0 S a dx wl env i, Pa T a H0 H ∧ RelR T K C ws S a dx wl env i σ H ∧ EndR T ca K C ws W D H0 S a dx wl (m env i)
structure IRS (T : Gam) (ca : XC → Addr) (X : Cx) (C : Addr) (ws : List Str) (W : WX) (st : Stmt) (m : SvR) : Prop where
  ps : PS X st (tSR T ca X.K C ws W m)
structure IRSs (T : Gam) (ca : XC → Addr) (X : Cx) (C : Addr) (ws : List Str) (W : WX) (st : List Stmt) (m : SvR) : Prop where
  ps : PSs X st (tSR T ca X.K C ws W m)
def liftRR (r : Res (D × Nat)) (k : D → Nat → OutR) : OutR := match r with
  | .ok (d, i) => k d i
  | .exc c => .exc c
  | .stuck => .stuck
def uSeq (a b : SvR) : SvR := fun env i => match a env i with
  | .nx e j => b e j
  | o => o
def uSkip : SvR := fun env i => .nx env i
def uAsg (k : Nat) (m : SRe) : SvR := fun env i => liftRR (m env i) fun d j => .nx (env.set k (some d)) j
def uExpr (m : SRe) : SvR := fun env i => liftRR (m env i) fun _ j => .nx env j
def uRet (m : SRe) : SvR := fun env i => liftRR (m env i) fun d j => .ret d j
def uIf (t : Env → Res Bool) (a b : SvR) : SvR := fun env i => match t env with
  | .ok x => if x = true then a env i else b env i
  | .exc c => .exc c
  | .stuck => .stuck
section
variable {T : Gam} {ca : XC → Addr} {X : Cx} {C : Addr} {ws : List Str} {W : WX} {st : Stmt} {rest : List Stmt} {e : Expr} {pos pos' : Pos} {m m' : SvR} {me : SRe} {mt : Env → Res Bool} {S : List Addr} {x dx wl : Addr} {env : Env} {i : Nat} {σ : L2.St} {H H0 H1 : Hp} {Dn : Ends}
theorem RelR.set (r : RelR T X.K C ws S x dx wl env i σ H) {v : V} {d : IL.D} (h : Rp X.K (hide (x :: S) H) v d) {k : Nat} (hk : k ≠ 0) : RelR T X.K C ws S x dx wl (env.set k (some d)) i (σ.set k (some v)) H where
  ob := r.ob
  nw := r.nw
  wl := r.wl
  lv := r.lv
  sf := by rw [List.getElem?_set_ne hk]; exact r.sf
  rel := by
    refine ⟨by rw [List.length_set, List.length_set]; exact r.rel.len, fun j d' e => ?_⟩
    by_cases hj : k = j
    · subst hj
      have hl : k < env.length := by
        by_cases hl : k < env.length
        · exact hl
        · rw [List.getElem?_eq_none (by rw [List.length_set]; omega)] at e
          cases e
      rw [List.getElem?_set_self hl] at e
      cases e
      exact ⟨v, List.getElem?_set_self (by rw [← r.rel.len]; exact hl), h⟩
    · rw [List.getElem?_set_ne hj] at e
      obtain ⟨w, h1, h2⟩ := r.rel.at_ j d' e
      exact ⟨w, (List.getElem?_set_ne hj).trans h1, h2⟩
theorem EndR.lift {r : Res (IL.D × Nat)} {k : IL.D → Nat → OutR} {Q : VK} (p0 : Pa T x H0 H) (f : EndR T ca X.K C ws W Dn H0 S x dx wl (liftRR r k))
    (h : ∀ d j v H1, Pa T x H H1 → H1 x = some (rdI C dx wl j) → Rp X.K (hide (x :: S) H1) v d → EndR T ca X.K C ws W Dn H0 S x dx wl (k d j) → Q v H1) : FinR T ca X.K C S x dx wl W σ H r Q := by
  match r, f with
  | .ok (d, j), f => exact fun v H1 p h1 rr => h d j v H1 p h1 rr f
  | .exc c, f => exact fun H1 p => f σ H1 (p0.trans p)
theorem irs_nil : IRSs T ca X C ws W [] uSkip := ⟨pss_imp pss_nil fun D σ H ⟨H0, S, a, dx, wl, env, i, p0, r, fin⟩ => fin σ H p0 r⟩
theorem irs_cons (h : IRS T ca X C ws W st m) (h' : IRSs T ca X C ws W rest m') : IRSs T ca X C ws W (st :: rest) (uSeq m m') :=
  ⟨pss_imp (pss_cons h.ps h'.ps) fun D σ H ⟨H0, S, a, dx, wl, env, i, p0, r, fin⟩ => ⟨H0, S, a, dx, wl, env, i, p0, r, by
    unfold uSeq at fin
    cases hm : m env i with
    | nx e j => rw [hm] at fin; exact fun σ' H' p' r' => ⟨H0, S, a, dx, wl, e, j, p', r', fin⟩
    | _ => rw [hm] at fin; exact fin⟩⟩
theorem irs_one (h : IRS T ca X C ws W st m) : IRSs T ca X C ws W [st] m := ⟨pss_one h.ps⟩
theorem irs_never : IRS T ca X C ws W st (fun _ _ => .stuck) := ⟨ps_imp ps_never fun D σ H ⟨H0, S, a, dx, wl, env, i, p0, r, fin⟩ => fin.elim⟩
theorem irs_asg {k : Nat} {y : Str} (hN : X.N.Nodup) (h : IR T ca X C ws W e me) (hk : k ≠ 0 := by decide) (hi : X.N[k]? = some y := by rfl) (hx : Loc X.env.scope y := by first | exact Or.inl rfl | exact Or.inr rfl) (hs : swapsWith e (some (.Name y pos')) pos.line X.env = pure false := by rfl) (hf : X.fn y = true ∨ X.env.scope.names.lookup y = some .local := by first | exact .inl rfl | exact .inr rfl) :
    IRS T ca X C ws W (.Assign [.Name y pos'] e pos) (uAsg k me) :=
  ⟨ps_imp (ps_set hN hi hx h.pe hs hf) fun D σ H ⟨H0, S, a, dx, wl, env, i, p0, r, fin⟩ => ⟨S, a, dx, wl, env, i, r, EndR.lift (X := X) p0 fin fun d j v H1 p h1 rr f => f _ H1 (p0.trans p) ((r.le p h1).set rr hk)⟩⟩
theorem irs_expr (h : IR T ca X C ws W e me) (hs : swapsWith e none pos.line X.env = pure false := by rfl) : IRS T ca X C ws W (.Expr e pos) (uExpr me) :=
  ⟨ps_imp (ps_expr h.pe hs) fun D σ H ⟨H0, S, a, dx, wl, env, i, p0, r, fin⟩ => ⟨S, a, dx, wl, env, i, r, EndR.lift (X := X) p0 fin fun d j v H1 p h1 rr f => f _ H1 (p0.trans p) (r.le p h1)⟩⟩
theorem irs_ret (h : IR T ca X C ws W e me) : IRS T ca X C ws W (.Return (some e) pos) (uRet me) :=
  ⟨ps_imp (ps_ret h.pe) fun D σ H ⟨H0, S, a, dx, wl, env, i, p0, r, fin⟩ => ⟨S, a, dx, wl, env, i, r, EndR.lift (X := X) p0 fin fun d j v H1 p h1 rr f => f v H1 (p0.trans p) h1 rr⟩⟩
theorem irs_if {a b : List Stmt} (hc : IT T ca X W e mt) (ha : IRSs T ca X C ws W a m) (hb : IRSs T ca X C ws W b m') : IRS T ca X C ws W (.If e a b pos) (uIf mt m m') :=
  ⟨ps_imp (ps_if hc.pt ha.ps hb.ps) fun D σ H ⟨H0, S, a, dx, wl, env, i, p0, r, fin⟩ => ⟨a :: S, env, r.lv, r.rel, by
    unfold uIf at fin
    cases hm : mt env with
    | ok k =>
      rw [hm] at fin
      intro k' H1 p e
      cases (show k' = k from e)
      cases k with
      | true => exact ⟨H0, S, a, dx, wl, env, i, p0.trans p.pa, r.pe p, fin⟩
      | false => exact ⟨H0, S, a, dx, wl, env, i, p0.trans p.pa, r.pe p, fin⟩
    | exc c => rw [hm] at fin; exact fun H1 p => fin σ H1 (p0.trans p.pa)
    | stuck => rw [hm] at fin; exact fin⟩⟩
end
/-! ### a method by its body's rule -/
def startR (n : Nat) (ds : List D) : Env := none :: (ds.map some ++ List.replicate (n - 1 - ds.length) none)
def outRR : OutR → Res (D × Nat)
  | .nx _ i => .ok (.none, i)
  | .ret d i => .ok (d, i)
  | .exc c => .exc c
  | .stuck => .stuck
section
variable {T : Gam} {ca : XC → Addr} {P : Program} {w : World} {K : PySem.W.Frag} {mg : Str → Option Value} {base : Heap} {C : Addr} {x qual : Str} {st : Stmt} {N ps : List Str} {k n : Nat} {m : List Str → SvR}
theorem startR_rel {S : List Addr} {a : Addr} {xs : List V} {ds : List D} {H : Hp} (h : RpAll K (hide (a :: S) H) xs ds) (hl : xs.length + 1 ≤ N.length) : RelE K (hide (a :: S) H) (startR N.length ds) (L2.start N (.ref a :: xs)) := by
  have e := h.length
  refine ⟨?_, fun i d q => ?_⟩
  · unfold startR L2.start
    simp only [List.length_cons, List.length_append, List.length_map, List.length_replicate]
    omega
  · match i, q with
    | i + 1, q =>
      have q : (ds.map some ++ List.replicate (N.length - 1 - ds.length) none)[i]? = some (some d) := q
      by_cases hi : i < ds.length
      · rw [List.getElem?_append_left (by simpa using hi)] at q
        obtain ⟨y, h1, h2⟩ := get_map q
        cases h2
        obtain ⟨v, h3, h4⟩ := h.get h1
        refine ⟨v, ?_, h4⟩
        show ((V.ref a :: xs).map some ++ _)[i + 1]? = _
        rw [List.getElem?_append_left (by simp; omega)]
        simp [h3]
      · rw [List.getElem?_append_right (by simpa using hi), List.getElem?_replicate] at q
        split at q <;> cases q
theorem fnR_of (U : FunMt K C x qual st ps) (hn : ps.length = n) (S : FnScope N ps (defScope st))
    (hbody : ∀ (ws : List Str) (f : Addr) (cdv : Value) (A : Around) (outer : List PySem.Env) (s : Shared) (H : Hp) (E : XK), Room k (A.deeper (envOfC qual (defScope st) s.heap.objs.size f cdv)) →
      IRSs T ca (cxOf (L2N.CX P w) P w K mg base N qual (defScope st) f cdv A outer s H E) C ws (fun c d _ H => E c d H) (defBody st) (m ws)) : FnR1 T ca P w K mg base (k + 1) C x n fun ws ds i => outRR (m ws (startR N.length ds) i) := by
  obtain ⟨f, fd, F, M, hb⟩ := U.ex
  subst hn
  refine ⟨f, fd, ps, rfl, ?_, M, hb⟩
  obtain ⟨oc, od, kV, doc, pm, an, cdv, ct, osl, rfl, lk, hcd⟩ := F.ex
  refine fn_of lk hcd S (fun vs H Q E h => h.1) fun A outer s H vs Q E hr ⟨hl, ws, S0, a, dx, wl, i, xs, ds, e, ob, hw, lv, nw, rr, fin⟩ => ⟨_, (hbody ws f cdv A outer s H E hr).ps, ?_⟩
  subst e
  have hpl : ps.length ≤ N.length := by have := congrArg List.length S.pre; rw [List.length_take] at this; omega
  have hl : xs.length + 1 = ps.length := by simpa using hl
  refine ⟨H, S0, a, dx, wl, startR N.length ds, i, .refl, ⟨ob, nw, hw, lv, rfl, startR_rel rr (by omega)⟩, ?_⟩
  have fin : FinR T ca K C S0 a dx wl (fun c d _ H' => E c d H') [] H (outRR (m ws (startR N.length ds) i)) Q := fin
  cases hm : m ws (startR N.length ds) i with
  | nx e j => rw [hm] at fin; exact fun σ H' p r => fin .non H' p r.ob .non
  | ret d j => rw [hm] at fin; exact fun v H' p h1 r => fin v H' p h1 r
  | exc c => rw [hm] at fin; exact fun σ H' p => fin H' p
  | stuck => rw [hm] at fin; exact fin.elim
theorem fnR_stuck (U : FunMt K C x qual st ps) (hn : ps.length = n) : FnR1 T ca P w K mg base k C x n fun _ _ _ => .stuck := by
  obtain ⟨f, fd, F, M, hb⟩ := U.ex
  subst hn
  refine ⟨f, fd, ps, rfl, ⟨fun vs H Q E h => h.1, fun A outer s H args us vs Q E hr e0 b r h => ?_⟩, M, hb⟩
  obtain ⟨_, ws, S0, a, dx, wl, i, xs, ds, e, ob, hw, lv, nw, rr, fin⟩ := h
  exact (show False from fin).elim
theorem FnR1.mono {j k : Nat} {g : List Str → List D → Nat → Res (D × Nat)} (F : FnR1 T ca P w K mg base j C x n g) (h : j ≤ k) : FnR1 T ca P w K mg base k C x n g :=
  let ⟨f, fd, ps, h0, h1, h2, h3⟩ := F.ex; ⟨f, fd, ps, h0, h1.mono h, h2, h3⟩
end
end IL
namespace IL
open PySem PySem.Spec PyProof.Rows L2
/-! ### reading the words and the place -/
def rOp2 (g : D → D → Option D) (m m' : SRe) : SRe := fun env i => rBind (m env i) fun d j => rBind (m' env j) fun c k => (ofO (g d c)).bind fun z => .ok (z, k)
def rB1 (g : List D → Option D) (m : SRe) : SRe := fun env i => rBind (m env i) fun d j => (ofO (g [d])).bind fun z => .ok (z, j)
def rInt (r : Res (D × Nat)) (k : Int → Nat → Res (D × Nat)) : Res (D × Nat) := rBind r fun d j => match d with | .int n => k n j | _ => .stuck
def rSl (m lo hi : SRe) : SRe := fun env i => rBind (m env i) fun d j => rInt (lo env j) fun a k => rInt (hi env k) fun b l => (ofO (gSl d (some a) (some b))).bind fun z => .ok (z, l)
section
variable {T : Gam} {ca : XC → Addr} {X : Cx} {C : Addr} {ws : List Str} {W : WX} {e a b o lo hi : Expr} {pos apos p2 q : Pos} {m m' ml mh : SRe} {S : List Addr} {x dx wl : Addr} {env : Env} {i : Nat} {σ : L2.St} {H H1 : Hp} {Q : VK}
theorem FinR.ofO {r : Option D} {j : Nat} (f : FinR T ca X.K C S x dx wl W σ H ((ofO r).bind fun z => .ok (z, j)) Q) (h : H x = some (rdI C dx wl j)) : ∃ z, r = some z ∧ Wants T X.K (x :: S) H z Q := by
  cases r with
  | none => exact f.elim
  | some z => exact ⟨z, rfl, fun v H' p rr => f v H' p.pa (p.st _ _ h rfl) rr⟩
theorem ir_spot {self : Str} (L : RdC X.K C) (hN : X.N[0]? = some self := by rfl) (hv : Vis X.env.scope self := by first | exact Or.inl rfl | exact Or.inr (Or.inl rfl) | exact Or.inr (Or.inr rfl)) (hd : (self == ("__debug__" : Str)) = false := by decide) (hcd : (self == ("__classdict__" : Str)) = false := by decide)
    (hb : attributeBase (.Name self q) "spot" X.env (eval (.Name self q) X.env) = eval (.Name self q) X.env := by rfl) : IR T ca X C ws W (.Attribute (.Name self q) "spot" pos) (fun _ i => .ok (.int i, i)) :=
  ⟨pe_imp (pe_fld (pe_var (i := 0) hN hv hd hcd) hb) fun σ H Q ⟨S, x, dx, wl, env, i, r, f⟩ => ⟨.ref x, r.sf, x, C, dx, _, .int i, rfl, r.ob, L.cls, L.noS, rfl, f _ H .refl r.ob (.int i)⟩⟩
theorem rp_strs {K : PySem.W.Frag} {G : Hp} : ∀ ws : List Str, RpAll K G (ws.map V.str) (ws.map PyData.str)
  | [] => .nil
  | y :: r => .cons (.str y) (rp_strs r)
theorem RelR.wn (r : RelR T X.K C ws S x dx wl env i σ H) : wl ∉ x :: S := fun z => by
  rcases List.mem_cons.mp z with z | z
  · have q := r.wl
    rw [z, r.ob] at q
    cases q
  · exact r.nw z
theorem ir_words {self : Str} (L : RdC X.K C) (hN : X.N[0]? = some self := by rfl) (hv : Vis X.env.scope self := by first | exact Or.inl rfl | exact Or.inr (Or.inl rfl) | exact Or.inr (Or.inr rfl)) (hd : (self == ("__debug__" : Str)) = false := by decide) (hcd : (self == ("__classdict__" : Str)) = false := by decide)
    (hb : attributeBase (.Name self q) "words" X.env (eval (.Name self q) X.env) = eval (.Name self q) X.env := by rfl) : IR T ca X C ws W (.Attribute (.Name self q) "words" pos) (fun _ i => .ok (.list (ws.map .str), i)) :=
  ⟨pe_imp (pe_fld (pe_var (i := 0) hN hv hd hcd) hb) fun σ H Q ⟨S, x, dx, wl, env, i, r, f⟩ => ⟨.ref x, r.sf, x, C, dx, _, .ref wl, rfl, r.ob, L.cls, L.noW, rfl, f _ H .refl r.ob (.lst (.inl (.inl ((hide_in r.wn).trans r.wl))) (rp_strs ws))⟩⟩
theorem op2_pre {r : R2} {g : D → D → Option D} (hr : Imp2 T X.K r g) (rl : RelR T X.K C ws S x dx wl env i σ H) (f : FinR T ca X.K C S x dx wl W σ H (rOp2 g m m' env i) Q) : tOp r (tR T ca X.K C ws W m) (tR T ca X.K C ws W m') σ H Q :=
  ⟨S, x, dx, wl, env, i, rl, f.bind fun d j v H1 p h1 rr f1 => ⟨S, x, dx, wl, env, j, rl.le p h1, f1.bind fun c k u H2 p2 h2 r2 f2 => by
    obtain ⟨z, hz, w⟩ := f2.ofO h2
    exact hr (x :: S) v u d c z H2 Q ((rl.le p h1).le p2 h2).lv (rr.le p2.rd) r2 hz w⟩⟩
theorem ir_op2 {op : Operator} {r : R2} {g : D → D → Option D} (ho : OpR X (binaryOp op) r) (hr : Imp2 T X.K r g) (ha : IR T ca X C ws W a m) (hb : IR T ca X C ws W b m') : IR T ca X C ws W (.BinOp a op b pos) (rOp2 g m m') :=
  ⟨pe_imp (pe_op ho ha.pe hb.pe) fun σ H Q ⟨S, x, dx, wl, env, i, r, f⟩ => op2_pre hr r f⟩
theorem ir_cmp2 {op : CmpOp} {r : R2} {g : D → D → Option D} (ho : OpR X (compareOp op) r) (hr : Imp2 T X.K r g) (ha : IR T ca X C ws W a m) (hb : IR T ca X C ws W b m') (hm : behindInMarks op b = false := by first | exact nomark _ | rfl) : IR T ca X C ws W (.Compare a [op] [b] pos) (rOp2 g m m') :=
  ⟨pe_imp (pe_cmpR ho ha.pe hb.pe hm) fun σ H Q ⟨S, x, dx, wl, env, i, r, f⟩ => op2_pre hr r f⟩
theorem ir_ix2 {r : R2} {g : D → D → Option D} (ho : IxR X r) (hr : Imp2 T X.K r g) (ha : IR T ca X C ws W a m) (hb : IR T ca X C ws W b m') (hs : PlainIx b := by exact fun _ _ => rfl) : IR T ca X C ws W (.Subscript a b pos) (rOp2 g m m') :=
  ⟨pe_imp (pe_ix ho ha.pe hb.pe hs) fun σ H Q ⟨S, x, dx, wl, env, i, r, f⟩ => op2_pre hr r f⟩
theorem ir_callB1 {y : Str} {id : String} {p : Pos} {r : List V → Hp → VK → Prop} {g : List D → Option D} (hc : CallR X (.builtin id) r) (hr : ImpN T X.K r g) (hv : bootBuiltins y = some (.builtin id)) (hm : X.mg y = none) (h : IR T ca X C ws W e m) (hg : Gl X y := by rfl) (hn : y ≠ "__name__" := by decide) (hdb : (y == ("__debug__" : Str)) = false := by decide)
    (he : starEach [e] X.env = (false, eval e X.env) :: starEach [] X.env := by rfl) (hpl : (backTo pos (starEach [] X.env)).any (·.1) = false := by rfl) : IR T ca X C ws W (.Call (.Name y p) [e] [] pos) (rB1 g m) :=
  ⟨pe_imp (pe_callB hc hg hm hv (pa_cons h.pe pa_nil he) hn hdb he hpl) fun σ H Q ⟨S, x, dx, wl, env, i, rl, f⟩ => ⟨S, x, dx, wl, env, i, rl, f.bind fun d j v H1 p h1 rr f1 => by
    obtain ⟨z, hz, w⟩ := f1.ofO h1
    exact hr (x :: S) [v] [d] z H1 Q (rl.le p h1).lv (.cons rr .nil) hz w⟩⟩
theorem ir_sl (ha : IR T ca X C ws W a m) (hl : IR T ca X C ws W lo ml) (hh : IR T ca X C ws W hi mh) : IR T ca X C ws W (.Subscript a (.Slice (some lo) (some hi) none p2) pos) (rSl m ml mh) :=
  ⟨pe_imp (pe_slice ((sl_list.or sl_tupA).or sl_str) ha.pe (po_some hl.pe) (po_some hh.pe)) fun σ H Q ⟨S, x, dx, wl, env, i, rl, f⟩ => ⟨S, x, dx, wl, env, i, rl, f.bind fun d j v H1 p h1 rr f1 => by
    have r1 := rl.le p h1
    refine ⟨S, x, dx, wl, env, j, r1, FinR.bind (X := X) f1 fun d2 k v2 H2 p2 h2 rr2 f2 => ?_⟩
    cases d2 with
    | int n =>
      cases rp_int rr2
      refine ⟨n, rfl, S, x, dx, wl, env, k, r1.le p2 h2, FinR.bind (X := X) f2 fun d3 l v3 H3 p3 h3 rr3 f3 => ?_⟩
      cases d3 with
      | int n3 =>
        cases rp_int rr3
        obtain ⟨z, hz, w⟩ := FinR.ofO (X := X) f3 h3
        exact ⟨n3, rfl, imp_sl ((r1.le p2 h2).le p3 h3).lv ((rr.le p2.rd).le p3.rd) hz w⟩
      | _ => exact f3.elim
    | _ => exact f2.elim⟩⟩
/-! tests, the place set -/
def uIfR (t : SRe) (a b : SvR) : SvR := fun env i => liftRR (t env i) fun d j => match isB d with
  | some true => a env j
  | some false => b env j
  | none => .stuck
theorem irs_ifC {op : CmpOp} {r : R2} {g : D → D → Option D} {sa sb : List Stmt} {ma mb : SvR} {cp : Pos} (ho : OpR X (compareOp op) r) (hr : Imp2 T X.K r g) (ha : IR T ca X C ws W a m) (hb : IR T ca X C ws W b m') (h1 : IRSs T ca X C ws W sa ma) (h2 : IRSs T ca X C ws W sb mb) (hm : behindInMarks op b = false := by first | exact nomark _ | rfl) :
    IRS T ca X C ws W (.If (.Compare a [op] [b] cp) sa sb pos) (uIfR (rOp2 g m m') ma mb) :=
  ⟨ps_imp (ps_if (pt_cmpR ho ha.pe hb.pe hm) h1.ps h2.ps) fun D σ H ⟨H0, S, x, dx, wl, env, i, p0, r, fin⟩ => by
    unfold uIfR at fin
    refine op2_pre hr r (EndR.lift (X := X) p0 fin fun d j v H1 p h1 rr f => ?_)
    cases d with
    | bool k =>
      refine ⟨k, rp_bl rr, ?_⟩
      cases k with
      | true => exact ⟨H0, S, x, dx, wl, env, j, p0.trans p, r.le p h1, f⟩
      | false => exact ⟨H0, S, x, dx, wl, env, j, p0.trans p, r.le p h1, f⟩
    | _ => exact f.elim⟩
def uSpot (m : SRe) : SvR := fun env i => liftRR (m env i) fun d _ => match d with
  | .int n => if 0 ≤ n then .nx env n.toNat else .stuck
  | _ => .stuck
theorem irs_spot {self : Str} (L : RdC X.K C) (h : IR T ca X C ws W e m) (hN : X.N[0]? = some self := by rfl) (hv : Vis X.env.scope self := by first | exact Or.inl rfl | exact Or.inr (Or.inl rfl) | exact Or.inr (Or.inr rfl)) (hd : (self == ("__debug__" : Str)) = false := by decide) (hcd : (self == ("__classdict__" : Str)) = false := by decide)
    (hs : swapsWith e (some (.Attribute (.Name self q) "spot" p2)) pos.line X.env = pure false := by rfl) : IRS T ca X C ws W (.Assign [.Attribute (.Name self q) "spot" p2] e pos) (uSpot m) :=
  ⟨ps_imp (ps_fld (pe_var (i := 0) hN hv hd hcd) h.pe hs) fun D σ H ⟨H0, S, x, dx, wl, env, i, p0, r, fin⟩ => ⟨S, x, dx, wl, env, i, r, EndR.lift (X := X) p0 fin fun d j v H1 p h1 rr f => by
    have r1 := r.le p h1
    cases d with
    | int n =>
      cases rp_int rr
      have f : EndR T ca X.K C ws W D H0 S x dx wl (if 0 ≤ n then .nx env n.toNat else .stuck) := f
      split at f
      · rename_i hn
        refine ⟨.ref x, r1.sf, x, C, dx, _, rfl, h1, L.cls, L.noS, (by show 2 < 1000; decide), ?_⟩
        have e1 : putF "spot" (V.int n) ([("words", V.ref wl), ("spot", V.int (j : Int))] : List (Str × V)) = ([("words", V.ref wl), ("spot", V.int n)] : List (Str × V)) := by rfl
        rw [e1]
        have pu : Pa T x H1 (upd H1 x (rdI C dx wl n.toNat)) := Pa.upd h1 rfl rfl
        have e2 : (n.toNat : Int) = n := Int.toNat_of_nonneg hn
        rw [← e2]
        exact f _ _ ((p0.trans p).trans pu) (r1.le pu upd_same)
      · exact f.elim
    | _ => exact f.elim⟩⟩
end
end IL
namespace IL
open PySem PySem.Spec PyProof.Rows L2
/-! ### Reading(text).term(0) -/
def wordsOf (x : Str) : List Str := Txt.split (Txt.replace (Txt.replace x "(" "( ") ")" " )") " "
def spRd (C : Addr) : Sp := fun vs H Q _ => ∃ a x dx, vs = [.ref a, .str x] ∧ H a = some (.ins C dx []) ∧ x.length ≤ 100000 ∧
  ∀ wl, H wl = none → Q .non (upd (upd (upd H wl (.lst ((wordsOf x).map V.str))) a (.ins C dx [("words", .ref wl)])) a (rdI C dx wl 0))
section
variable {X : Cx} {o e value : Expr} {to te tv ta : TE} {f : Str} {apos pos pos' : Pos}
/-- a text's split, the text itself wants a token -/
theorem pet_split (ho : PET X o to) (he : PE X e te) (hs : starEach [e] X.env = [(false, eval e X.env)] := by rfl) (hbase : attributeBase o "split" X.env (eval o X.env) = eval o X.env := by rfl) (hline : (apos.endLine == pos.line) = true := by rfl) :
    PET X (.Call (.Attribute o "split" apos) [e] [] pos) (tM1 (fun x xs H Q => ∃ a b, x = .str a ∧ xs = [.str b] ∧ (b.length == 0) = false ∧ a.length + 2 ≤ sizeLine ∧ rNewStrs (Txt.split a b) H Q) to te) := by
  intro pins s σ H Q h0 I h
  refine PySem.Call_method1 hbase hs hline (thn (ho pins s σ H _ h0 I h) fun v s1 ⟨x, H1, I1, r1, ⟨a, ea⟩, q1⟩ => ?_)
  subst ea
  obtain ⟨t, rfl⟩ := _root_.id r1
  refine ⟨"str", _, F.plainAttrs_str, F.slot_str_split, F.type_str_split, typeIs_str _ _ _, (fun _ e => nomatch e), Calls.callWith_builtin rfl (Calls.evalArgs_plain (Calls.spliced_cons ?_))⟩
  exact thn (he.run pins s1 σ H1 _ I1 q1) fun u s2 ⟨y, H2, I2, r2, q2⟩ => Calls.spliced_nil (mt_split pins s2 σ H2 _ [y] _ [u] Q I2 r1 (.cons r2 .nil) q2)
theorem pst_fld (ha : PE X o ta) (hv : PET X value tv) (hs : swapsWith value (some (.Attribute o f pos')) pos.line X.env = pure false) : PST X (.Assign [.Attribute o f pos'] value pos) (sFld X.K ta tv f) := by
  intro pins s σ H D h0 I h
  refine plainObj_wpAny_Assign_Attribute (thn (hv pins s σ H _ h0 I h) fun u s1 ⟨y, H1, I1, ry, q⟩ => thn (ha.run pins s1 σ H1 _ I1 q) fun ov s2 ⟨x, H2, I2, rx, a, C, dx, fs, ex, ea, c, n, l, q2⟩ => ?_) hs
  subst ex
  obtain rfl : ov = Value.ref a := rx
  exact setattr_ok I2 ea c n l ry fun s3 I3 => ⟨σ, _, I3, q2⟩
end
section
variable {T : Gam} {ca : XC → Addr} {X : Cx} {W : WX} {C : Addr} {e : Expr} {me : Ev} {pos apos p p2 p3 : Pos} {jj : Nat}
theorem pass0R : Passes (L2N.CX X.prog X.w) X (fun _ _ _ => False) := fun pins σ H s e s' I ⟨_, _, _, _, _, _, _, _, _, _, _, _, z⟩ => z.elim
def mRead (g : List Str → List D → Nat → Res (D × Nat)) (me : Ev) : Ev := fun env => (me env).bind fun d => match d with
  | .str x => if decide (x.length ≤ 100000) = true then (g (wordsOf x) [.int 0] 0).bind fun p => .ok p.1 else .stuck
  | _ => .stuck
theorem ie_read {fi : Addr} {fdi : FuncData} {y m : Str} {k j : Nat} {pl : Sem Bool} {g : List Str → List D → Nat → Res (D × Nat)} (L : RdC X.K C) (MI : Mk X.K C fi) (Fi : FnOk X.prog X.w X.K X.mg X.base (L2N.CX X.prog X.w) 1 fi fdi ["self", "text"] (spRd C)) (hbi : L2.Binds X.K fdi ["self", "text"] [])
    (F : FnR1 T ca X.prog X.w X.K X.mg X.base k C m 2 g) (hr : Room j X.A) (hk : k ≤ j) (hj : 2 ≤ j) (hmC : X.mg y = some (.ref C)) (tk : L2N.Takes X W) (h : IE T ca X W e me) (hg : L2.Gl X y := by rfl) (hdb : (y == ("__debug__" : Str)) = false := by decide)
    (hm : ([("words", V.non), ("spot", V.non)] : List (Str × V)).lookup m = none := by rfl)
    (he : starEach [e] X.env = (false, eval e X.env) :: starEach [] X.env := by rfl) (hpl : (backTo p2 (starEach [] X.env)).any (·.1) = false := by rfl)
    (hst : starEach [.Constant (.int 0) jj p3] X.env = (false, eval (.Constant (.int 0) jj p3) X.env) :: starEach [] X.env := by rfl) (hpl2 : (backTo pos (starEach [] X.env)).any (·.1) = false := by rfl)
    (ht : eval (.Call (.Attribute (.Call (.Name y p) [e] [] p2) m apos) [.Constant (.int 0) jj p3] [] pos) X.env = (do
      let ov ← eval (.Call (.Name y p) [e] [] p2) X.env
      standAt apos.atName
      let (f, first) ← holding [ov] (getMethod ov m pl)
      callWith pos f first (backTo pos (starEach [.Constant (.int 0) jj p3] X.env)) (backToKw pos (keywordEach [] X.env))) := by rfl) :
    IE T ca X W (.Call (.Attribute (.Call (.Name y p) [e] [] p2) m apos) [.Constant (.int 0) jj p3] [] pos) (mRead g me) := by
  obtain ⟨f, fd, ps, hn, F', M, hb⟩ := F.ex
  refine ⟨⟨fun pins s σ H Q I ⟨S, env, lv, rel, fin⟩ => ?_⟩⟩
  have mk := pe_make (E := fun _ _ _ => False) (p := p) (pos := p2) MI Fi (hr.mono hj) hg hmC hbi .nil pass0R (pa_cons h.pe pa_nil he) hdb he hpl
  refine PySem.W.methodCall_KW (pl := pl) (thn (mk.run pins s σ H (fun v H1 => ∃ a dx wl x, v = .ref a ∧ H1 a = some (rdI C dx wl 0) ∧ H1 wl = some (.lst ((wordsOf x).map V.str)) ∧ Live T (a :: S) H1 ∧ wl ∉ S ∧ FinR T ca X.K C S a dx wl W σ H1 (g (wordsOf x) [.int 0] 0) Q) I ⟨S, env, lv, rel, ?_⟩) fun u s1 ⟨v, H1, I1, rx, a, dx, wl, x, ev, ob, hw, lv1, nw, f1⟩ => ?_) ht
  · refine Fin.bind (R' := Rv X.K S) fin fun d v H1 _ p1 r1 f1 => ?_
    cases d with
    | str x =>
      cases rp_str r1
      have f1 : Fin T ca (Rv X.K S) W σ H1 (if decide (x.length ≤ 100000) = true then (g (wordsOf x) [.int 0] 0).bind fun p => .ok p.1 else .stuck) Q := f1
      split at f1
      · rename_i hx
        intro a dx ha hdx nd
        have lv1 := lv.le p1
        have q1 : Pe T H1 (upd H1 dx (.own a)) := .new hdx
        have q2 : Pe T (upd H1 dx (.own a)) (upd (upd H1 dx (.own a)) a (.ins C dx [])) := .new ((upd_ne (Ne.symm nd)).trans ha)
        refine ⟨a, x, dx, rfl, upd_same, of_decide_eq_true hx, fun wl hwl => ⟨rfl, ?_⟩⟩
        have q3 := Pe.new (T := T) (o := .lst ((wordsOf x).map V.str)) hwl
        have na : wl ≠ a := fun z => by rw [z, upd_same] at hwl; cases hwl
        have e0 : upd (upd (upd H1 dx (.own a)) a (.ins C dx [])) wl (.lst ((wordsOf x).map V.str)) a = some (.ins C dx []) := (upd_ne (Ne.symm na)).trans upd_same
        have pA : Pa T a H1 (upd (upd (upd H1 dx (.own a)) a (.ins C dx [])) wl (.lst ((wordsOf x).map V.str))) := ((q1.trans q2).trans q3).pa
        have pB : Pa T a (upd (upd (upd H1 dx (.own a)) a (.ins C dx [])) wl (.lst ((wordsOf x).map V.str))) (upd (upd (upd (upd H1 dx (.own a)) a (.ins C dx [])) wl (.lst ((wordsOf x).map V.str))) a (.ins C dx [("words", .ref wl)])) := Pa.upd e0 rfl rfl
        have pC := Pa.upd (T := T) (a := a) (H := upd (upd (upd (upd H1 dx (.own a)) a (.ins C dx [])) wl (.lst ((wordsOf x).map V.str))) a (.ins C dx [("words", .ref wl)])) (v := rdI C dx wl 0) upd_same rfl rfl
        have pp := (pA.trans pB).trans pC
        have hwl1 : H1 wl = none := by
          have z := hwl
          rw [upd_ne na] at z
          by_cases e : wl = dx
          · rw [e, upd_same] at z; cases z
          · rwa [upd_ne e] at z
        have up : ∀ {H' : Hp}, Pa T a (upd (upd (upd (upd (upd H1 dx (.own a)) a (.ins C dx [])) wl (.lst ((wordsOf x).map V.str))) a (.ins C dx [("words", .ref wl)])) a (rdI C dx wl 0)) H' → Pe T H1 H' := fun {H'} z =>
          let y := pp.trans z; ⟨fun b o e i => y.st b o (ne_of_none e ha) e i, y.fr, y.tb⟩
        refine ⟨a, dx, wl, x, rfl, upd_same, (upd_ne na).trans ((upd_ne na).trans upd_same), ⟨fun b hb => ?_, pp.tb lv1.tb⟩, lv1.no hwl1, ?_⟩
        · rcases List.mem_cons.mp hb with rfl | hb
          · exact ⟨_, upd_same, rfl⟩
          · obtain ⟨o, h1, h2⟩ := lv1.own b hb
            exact ⟨o, pp.st b o (ne_of_none h1 ha) h1 (isTbl_of_own h2), h2⟩
        · match hgg : g (wordsOf x) [.int 0] 0 with
          | .ok (d, i) =>
            rw [hgg] at f1
            exact fun v H' z _ rr => f1 v H' (up z) (rr.le (hide_le fun b hb => List.mem_cons_of_mem _ hb))
          | .exc c => rw [hgg] at f1; exact fun H' z => f1 H' (up z)
          | .stuck => rw [hgg] at f1; exact f1.elim
      · exact f1.elim
    | _ => exact f1.elim
  · subst ev
    obtain rfl : u = Value.ref a := rx
    have hfs : ([("words", V.ref wl), ("spot", .int ((0 : Nat) : Int))] : List (Str × V)).lookup m = none := by
      simp only [List.lookup] at hm ⊢
      revert hm
      repeat' split
      all_goals first | (intro h; cases h; done) | (intro _; rfl)
    refine getmeth_ok I1 ob L.cls M hfs ?_
    refine PySem.W.callWith_K (first := [.ref a]) (h₀ := X.base) I.ok.mod.kin M.kp (thn ((pa_cons (pe_int (i := 0)) pa_nil hst).run pos pins s1 σ H1 (fun vs H2 => vs = [V.int 0] ∧ H2 = H1) I1 ⟨rfl, rfl⟩) fun us s2 ⟨vs, H2, I2, r2, e1, e2⟩ => ⟨I2.kIn, ?_⟩) hst hpl2
    subst e1 e2
    exact run_fnS (E := WE W) (us := .ref a :: us) (vs := [.ref a, .int 0]) F' (hr.mono hk) hb (L2N.passAt tk σ) I2 (.cons rfl r2) ⟨rfl, wordsOf x, S, a, dx, wl, 0, [.int 0], [.int 0], rfl, ob, hw, lv1, nw, .cons (.int 0) .nil, f1⟩
end
end IL
namespace IL
open PySem PySem.Spec PyProof.Rows L2
/-! ### try: body, except x: raise x2('..'), else: orelse -/
def sTryR (c1 c2 : XC) (mb mo : Sv) : Sv := fun env => match mb env with
  | .nx e => mo e
  | .exc c => if c = c1 then .exc c2 else .stuck
  | _ => .stuck
section
variable {T : Gam} {ca : XC → Addr} {X : Cx} {W : WX} {body orelse : List Stmt} {mb mo : Sv} {c1 c2 : XC} {x x2 msg : Str} {j : Nat} {np p p2 pos pos' pos2 rp : Pos}
theorem is_tryR (hs : X.stack = X.env :: X.outer) (hf : X.env.frame = some X.env.locals) (hpa : ∀ hd : Option Value, PassesOwnAt (model X.prog X.w) (X.A.mark hd) X.A X.env X.xe) (tk : Takes3 X W) (hc : L2.Names X x (.ref (ca c1))) (hex : PySem.W.exmOne X.K (.ref (ca c1)) (.ref (ca c1)) = some true)
    (R : RsOk X.K X.mg ca c2 x2) (hg : L2.Gl X x2) (hdb : (x2 == ("__debug__" : Str)) = false) (hb : ∀ (W : WX) (pn : List (Addr × Obj)) (xe : Value → Shared → Prop), L2N.Takes (X.tr pn xe) W → ISs T ca (X.tr pn xe) W body mb) (ho : ISs T ca X W orelse mo) :
    IS T ca X W (.Try body [.ExceptHandler (some (.Name x np)) none [.Raise (some (.Call (.Name x2 p) [.Constant (.str msg) j p2] [] pos2)) none rp] pos'] orelse [] pos) (sTryR c1 c2 mb mo) := by
  obtain ⟨_, _, _, _, F, q⟩ := R.ex
  refine ⟨ps_imp (ps_tryX (Wout := W) (tb := fun W => tS X.K T ca W mb) (ts := fun a cls d D σ H => W (.ref (ca c2)) none σ H) ho.ps hs hf hc hpa tk (fun W pn xe tk' _ => (hb W pn xe tk').ps) fun a oe cls d pn hz ⟨vs, hd⟩ tkS => ?_) fun D σ H ⟨H0, S0, os, env, rel, fin⟩ => ⟨H0, S0, os, env, rel, ?_⟩⟩
  · exact pss_imp (pss_one (ps_raise3 (p := (a, oe)) ⟨rfl, vs, hd, hz.2.2 vs hd⟩ List.mem_cons_self tkS (L2N.pmk_own F q R.g R.kp (raises_own R.b R.t) hg hdb))) fun D σ H h => h
  · unfold sTryR at fin
    cases hm : mb env with
    | nx e => rw [hm] at fin; exact fun os' σ' H' r' => ⟨H0, S0, os', e, r', fin⟩
    | exc c =>
      rw [hm] at fin
      dsimp only at fin
      split at fin
      · rename_i hcc
        subst hcc
        exact fun σ' H' p' => ⟨hex, fun a _ => fin σ' H' p'⟩
      · exact fin.elim
    | ret d => rw [hm] at fin; exact fin.elim
    | brk e => rw [hm] at fin; exact fin.elim
    | ct e => rw [hm] at fin; exact fin.elim
    | stuck => rw [hm] at fin; exact fin.elim
end
end IL
namespace IL
open PySem PySem.Spec PyProof.Rows L2
/-! ### name = [.. for ..] -/
section
variable {T : Gam} {ca : XC → Addr} {X : Cx} {W : WX} {elt iter : Expr} {pos spos : Pos} {mf : Ev} {mi : Env → Res (List D)} {mc : Env → Res Bool}
theorem is_setLc {i j : Nat} {x y : Str} {px py : Pos} {scope : Scope} {ifs : List Expr} (hN : X.N.Nodup) (hi : II T ca X W (.Name x px) iter mi) (ok : blkC X.N X.env.scope scope [(x, j)] = true)
    (hg : ∀ (s : Shared) (H : Hp) (C : Addr) (cl : List (Str × Addr)) (fp : List Addr), PG (X.blk s H scope (compEnvC scope cl C X.env) fp) (.Name x px) (gName j))
    (ht : ∀ (s : Shared) (H : Hp) (C : Addr) (cl : List (Str × Addr)) (fp : List Addr), ITs T ca (X.blk s H scope (compEnvC scope cl C X.env) fp) W0 ifs mc)
    (he : ∀ (s : Shared) (H : Hp) (C : Addr) (cl : List (Str × Addr)) (fp : List Addr), IE T ca (X.blk s H scope (compEnvC scope cl C X.env) fp) W0 elt mf)
    (hy : X.N[i]? = some y := by rfl) (hyl : X.env.scope.names.lookup y = some .local := by rfl) (hk : X.env.scope.kind = .function := by rfl) (hl : (py.line == pos.line) = true := by rfl) (ha : (scope.names.any fun (n, k) => n == y && (k == .local || k == .cell)) = false := by rfl)
    (hc : X.calm = true := by rfl) (hs : ∀ x, foldedSetIterable iter X.env x = pure x := by intro _; rfl) :
    IS T ca X W (.Assign [.Name y py] (.ListComp elt [⟨.Name x px, iter, ifs, 0⟩] scope pos) spos) (sAsg i (mComp mi j mc mf)) :=
  ⟨ps_imp (ps_setLc (own := [(x, j)]) hc hN hy hyl (sw_true hk hyl hl ha) hi.pi (blkOk_by ok) hg (fun s H C cl fp => (ht s H C cl fp).pts) (fun s H C cl fp => (he s H C cl fp).pe) hs) fun D σ H ⟨H0, S0, os, env, rel, fin⟩ => by
    have fin' : Fin T ca (Rv X.K (os ++ S0)) W σ H (mComp mi j mc mf (hid env)) (fun v H1 => gName i v σ H1 D.nx) := fin_hid (R := Rv X.K (os ++ S0)) rel fin fun d v H1 p rel1 rv f => f os _ H1 (rel1.set rv i)
    exact ⟨os ++ S0, hid env, rel.lv, rel.hidE, Fin.bind (R' := fun H1 J ds => Walks X.K (os ++ S0) J H1 ds) fin' fun ds J H1 _ p1 w f1 => by
      split at f1
      · rename_i hb
        exact fun p hp => comp_run (T := T) (ca := ca) (X := X) (W := W) (H0 := H) (rel.lv.le p1) (rel.hidE.le p1).wipe w hb hp f1
      · exact f1.elim⟩⟩
end
end IL
namespace IL
open PySem PySem.NumText PySem.W
/-! ### texts, by their signs -/
abbrev Cs := List Nat
def one (c : Nat) : Str := ⟨#[c]⟩
abbrev sg (x : Str) : Cs := x.cps.toList
theorem sg_inj {x y : Str} (h : sg x = sg y) : x = y := cps_inj h
theorem sg_app (x y : Str) : sg (x ++ y) = sg x ++ sg y := by
  show (x.cps ++ y.cps).toList = _
  rw [Array.toList_append]
theorem len_sg (x : Str) : x.length = (sg x).length := by simp [Str.length]
theorem len_app (x y : Str) : (x ++ y).length = x.length + y.length := by rw [len_sg, len_sg, len_sg, sg_app, List.length_append]
theorem split_ne (x : Str) (c : Nat) : Txt.split x (one c) ≠ [] := by
  unfold Txt.split
  split
  · simp
  · split
    · simp
    · rw [StrLaws.partsBetween_eq]
      obtain ⟨p, r, e⟩ := StrLaws.partsFrom_ne x (one c).length 0 (Builtin.Str.occurrences x (one c) 0 x.length (x.length + 1))
      rw [e]
      simp
theorem join_cons (s p q : Str) (r : List Str) : Str.join s (p :: q :: r) = p ++ s ++ Str.join s (q :: r) := rfl
theorem join_one (s p : Str) : Str.join s [p] = p := rfl
theorem free_cut {c : Nat} : ∀ {a b x y : Cs}, c ∉ a → c ∉ b → a ++ c :: x = b ++ c :: y → a = b ∧ x = y
  | [], [], _, _, _, _, h => ⟨rfl, (List.cons.inj h).2⟩
  | [], d :: b, _, _, _, hb, h => absurd ((List.cons.inj h).1 ▸ List.mem_cons_self) hb
  | d :: a, [], _, _, ha, _, h => absurd ((List.cons.inj h).1.symm ▸ List.mem_cons_self) ha
  | d :: a, e :: b, x, y, ha, hb, h => by
    obtain ⟨h1, h2⟩ := List.cons.inj h
    obtain ⟨h3, h4⟩ := free_cut (fun z => ha (List.mem_cons_of_mem _ z)) (fun z => hb (List.mem_cons_of_mem _ z)) h2
    exact ⟨by rw [h1, h3], h4⟩
theorem sg_join (c : Nat) (p q : Str) (r : List Str) : sg (Str.join (one c) (p :: q :: r)) = sg p ++ c :: sg (Str.join (one c) (q :: r)) := by
  rw [join_cons, sg_app, sg_app, List.append_assoc]
  rfl
theorem join_uniq {c : Nat} : ∀ {ps qs : List Str}, ps ≠ [] → qs ≠ [] → (∀ p ∈ ps, c ∉ sg p) → (∀ p ∈ qs, c ∉ sg p) → Str.join (one c) ps = Str.join (one c) qs → ps = qs
  | [], _, h, _, _, _, _ => absurd rfl h
  | _, [], _, h, _, _, _ => absurd rfl h
  | [p], [q], _, _, _, _, e => by rw [join_one, join_one] at e; rw [e]
  | [p], q :: q2 :: r, _, _, hp, _, e => by
    have e := congrArg sg e
    rw [join_one, sg_join] at e
    exact absurd (show c ∈ sg p by rw [e]; simp) (hp p List.mem_cons_self)
  | p :: p2 :: r, [q], _, _, _, hq, e => by
    have e := congrArg sg e
    rw [join_one, sg_join] at e
    exact absurd (show c ∈ sg q by rw [← e]; simp) (hq q List.mem_cons_self)
  | p :: p2 :: r, q :: q2 :: t, _, _, hp, hq, e => by
    have e := congrArg sg e
    rw [sg_join, sg_join] at e
    obtain ⟨e1, e2⟩ := free_cut (hp p List.mem_cons_self) (hq q List.mem_cons_self) e
    rw [sg_inj e1, join_uniq (by simp) (by simp) (fun z hz => hp z (List.mem_cons_of_mem _ hz)) (fun z hz => hq z (List.mem_cons_of_mem _ hz)) (sg_inj e2)]
theorem split_join {c : Nat} {ps : List Str} (h : ps ≠ []) (hf : ∀ p ∈ ps, c ∉ sg p) : Txt.split (Str.join (one c) ps) (one c) = ps :=
  join_uniq (split_ne _ c) h (StrLaws.split_free _ c) hf (StrLaws.join_split _ _)
theorem split_one {c : Nat} {x : Str} (h : c ∉ sg x) : Txt.split x (one c) = [x] := by
  have z := split_join (c := c) (ps := [x]) (by simp) (by simpa using h)
  rwa [join_one] at z
theorem join_app (s : Str) : ∀ {ps qs : List Str}, ps ≠ [] → qs ≠ [] → Str.join s (ps ++ qs) = Str.join s ps ++ s ++ Str.join s qs
  | [], _, h, _ => absurd rfl h
  | [p], q :: r, _, _ => rfl
  | [p], [], _, h => absurd rfl h
  | p :: p2 :: r, qs, _, h => by
    show p ++ s ++ Str.join s ((p2 :: r) ++ qs) = p ++ s ++ Str.join s (p2 :: r) ++ s ++ Str.join s qs
    rw [join_app s (by simp) h]
    simp only [Str.append_assoc]
theorem split_app (c : Nat) (x y : Str) : Txt.split (x ++ one c ++ y) (one c) = Txt.split x (one c) ++ Txt.split y (one c) := by
  have e := join_app (one c) (split_ne x c) (split_ne y c)
  rw [StrLaws.join_split, StrLaws.join_split] at e
  rw [← e]
  exact split_join (by simp [split_ne]) fun p hp => (List.mem_append.mp hp).elim (StrLaws.split_free x c p) (StrLaws.split_free y c p)
theorem split_len (x : Str) (c : Nat) : ∀ p ∈ Txt.split x (one c), p.length ≤ x.length := fun p hp => by
  have e := StrLaws.join_split x (one c)
  have h : ∀ (ps : List Str), p ∈ ps → p.length ≤ (Str.join (one c) ps).length := by
    intro ps
    induction ps with
    | nil => intro h; cases h
    | cons a r ih =>
      intro h
      cases r with
      | nil =>
        rw [join_one]
        rcases List.mem_cons.mp h with rfl | h
        · exact Nat.le_refl _
        · cases h
      | cons b r =>
        rw [join_cons, len_app, len_app]
        rcases List.mem_cons.mp h with rfl | h
        · omega
        · have := ih h; omega
  have := h _ hp
  rwa [e] at this
theorem split_many (x : Str) (c : Nat) : (Txt.split x (one c)).length ≤ x.length + 1 := by
  have e := StrLaws.join_split x (one c)
  have h : ∀ (ps : List Str), ps.length ≤ (Str.join (one c) ps).length + 1 := by
    intro ps
    induction ps with
    | nil => simp
    | cons a r ih =>
      cases r with
      | nil => simp
      | cons b r =>
        rw [join_cons, len_app, len_app, List.length_cons]
        have : (one c).length = 1 := rfl
        omega
  have := h (Txt.split x (one c))
  rwa [e] at this
/-! replaced signs -/
def flat1 (c : Nat) (z : Cs) : Cs → Cs := fun l => l.flatMap fun k => if k = c then z else [k]
theorem repl_flat (c : Nat) (z : Cs) : ∀ l : Cs, StrLaws.replL [c] z l = flat1 c z l
  | [] => StrLaws.replL_nil
  | k :: r => by
    have hf : flat1 c z (k :: r) = (if k = c then z else [k]) ++ flat1 c z r := rfl
    rw [hf]
    by_cases h : k = c
    · rw [StrLaws.replL_hit (by simp) (by rw [h]; rfl), if_pos h]
      show z ++ StrLaws.replL [c] z r = _
      rw [repl_flat c z r]
    · rw [StrLaws.replL_miss (by simpa using h), if_neg h, repl_flat c z r]
      rfl
theorem sg_repl (x z : Str) (c : Nat) : sg (Txt.replace x (one c) z) = flat1 c (sg z) (sg x) := by
  show (Txt.replace x (one c) z).cps.toList = _
  rw [StrLaws.replace_list (by show 1 ≤ 1; decide)]
  exact repl_flat c _ _
/-! ### the words of a text -/
theorem sp_one : (" " : Str) = one 32 := by decide +kernel
theorem lp_one : ("(" : Str) = one 40 := by decide +kernel
theorem rp_one : (")" : Str) = one 41 := by decide +kernel
theorem dot_one : ("." : Str) = one 46 := by decide +kernel
theorem nl_one : ("\n" : Str) = one 10 := by decide +kernel
def encK (k : Nat) : Cs := if k = 40 then [40, 32] else if k = 41 then [32, 41] else [k]
def enc (x : Str) : Str := Txt.replace (Txt.replace x "(" "( ") ")" " )"
theorem sg_enc (x : Str) : sg (enc x) = (sg x).flatMap encK := by
  unfold enc
  rw [rp_one, lp_one, sg_repl, sg_repl]
  have e1 : sg ("( " : Str) = [40, 32] := by decide +kernel
  have e2 : sg (" )" : Str) = [32, 41] := by decide +kernel
  rw [e1, e2]
  unfold flat1
  induction sg x with
  | nil => rfl
  | cons k r ih =>
    rw [List.flatMap_cons, List.flatMap_append, List.flatMap_cons, ih]
    congr 1
    unfold encK
    by_cases h1 : k = 40
    · rw [if_pos h1, if_pos h1]; rfl
    · rw [if_neg h1, if_neg h1]
      by_cases h2 : k = 41
      · rw [if_pos h2, h2]; rfl
      · rw [if_neg h2]
        show (if k = 41 then [32, 41] else [k]) ++ [] = [k]
        rw [if_neg h2]; rfl
theorem enc_app (x y : Str) : enc (x ++ y) = enc x ++ enc y := sg_inj (by rw [sg_enc, sg_app, sg_app, sg_enc, sg_enc, List.flatMap_append])
theorem enc_free {x : Str} (h1 : 40 ∉ sg x) (h2 : 41 ∉ sg x) : enc x = x := sg_inj (by
  rw [sg_enc]
  generalize sg x = l at h1 h2
  induction l with
  | nil => rfl
  | cons k r ih =>
    rw [List.flatMap_cons, ih (fun z => h1 (List.mem_cons_of_mem _ z)) (fun z => h2 (List.mem_cons_of_mem _ z))]
    have a1 : k ≠ 40 := fun z => h1 (z ▸ List.mem_cons_self)
    have a2 : k ≠ 41 := fun z => h2 (z ▸ List.mem_cons_self)
    unfold encK
    rw [if_neg a1, if_neg a2]
    rfl)
theorem words_is (x : Str) : wordsOf x = Txt.split (enc x) (one 32) := by unfold wordsOf enc; rw [← sp_one]
theorem words_one {x : Str} (h0 : 32 ∉ sg x) (h1 : 40 ∉ sg x) (h2 : 41 ∉ sg x) : wordsOf x = [x] := by rw [words_is, enc_free h1 h2, split_one h0]
theorem words_sp (x y : Str) : wordsOf (x ++ " " ++ y) = wordsOf x ++ wordsOf y := by
  rw [words_is, enc_app, enc_app, sp_one, enc_free (x := one 32) (by decide) (by decide), split_app, ← words_is, ← words_is]
theorem words_lp (x : Str) : wordsOf ("(" ++ x) = ("(" : Str) :: wordsOf x := by
  have e : enc "(" = "(" ++ one 32 := by decide +kernel
  rw [words_is, enc_app, e, split_app, split_one (x := ("(" : Str)) (by decide +kernel), ← words_is]
  rfl
theorem words_rp (x : Str) : wordsOf (x ++ ")") = wordsOf x ++ [(")" : Str)] := by
  have e : enc ")" = one 32 ++ ")" := by decide +kernel
  rw [words_is, enc_app, e, ← Str.append_assoc, split_app, split_one (x := (")" : Str)) (by decide +kernel), ← words_is]
/-! ### numbers as texts -/
def num (v : Int) : Str := ((toString v : String) : Str)
theorem num_free (k : Nat) (hk : k ≠ 45 ∧ (k < 48 ∨ 57 < k)) (v : Int) : k ∉ sg (num v) := PyProof.Rows.int_text_free' k hk v
theorem sg_neg (n : Nat) : sg (num (Int.negSucc n)) = 45 :: sg (num ((n + 1 : Nat) : Int)) := by
  unfold num
  rw [sg, sg, PyProof.Rows.signs_ofString, PyProof.Rows.signs_ofString]
  have h1 : (toString (Int.negSucc n) : String) = "-" ++ toString (n + 1) := rfl
  have h2 : (toString ((n + 1 : Nat) : Int) : String) = toString (n + 1) := rfl
  rw [h1, h2, String.toList_append]
  rfl
theorem num_digits (m : Nat) : AllDigits (sg (num (m : Int))) ∧ sg (num (m : Int)) ≠ [] ∧ digitsVal (sg (num (m : Int))) = m := by
  have hs : sg (num (m : Int)) = (Nat.toDigits 10 m).map Char.toNat := KIN.signs_num m
  rw [hs]
  refine ⟨fun c hc => ?_, fun e => ?_, KIN.val_back m⟩
  · obtain ⟨ch, hch, rfl⟩ := List.mem_map.mp hc
    exact PyProof.Rows.digit_range (Nat.isDigit_of_mem_toDigits (by decide) (by decide) hch)
  · have h := KIN.val_back m
    have h2 := List.map_eq_nil_iff.mp e
    have h3 : (Nat.toDigits 10 m) ≠ [] := by
      intro z
      have := Nat.length_toDigits_pos (b := 10) (n := m)
      rw [z] at this
      exact absurd this (by decide)
    exact h3 h2
theorem num_len (m : Nat) (h : m < 10 ^ 10) : (num (m : Int)).length ≤ 10 := KT.len_num (by omega) (by omega)
/-- a number's text: a dash or none, and one to ten figures; read it is that number -/
theorem num_text {v : Int} (h : v.natAbs < 10 ^ 10) : ∃ f : Str, AllDigits (sg f) ∧ 1 ≤ f.length ∧ f.length ≤ 10 ∧ PySem.intText? (num v) = some v ∧ (sg (num v) = sg f ∨ sg (num v) = 45 :: sg f) := by
  cases v with
  | ofNat m =>
    have hm : m < 10 ^ 10 := h
    obtain ⟨h1, h2, h3⟩ := num_digits m
    have l := num_len m hm
    refine ⟨num (m : Int), h1, ?_, l, ?_, .inl rfl⟩
    · rw [len_sg]
      exact List.length_pos_iff.mpr h2
    · have := intText_digits h1 h2 (Nat.le_trans l (by decide))
      rw [h3] at this
      exact this
  | negSucc n =>
    have hm : n + 1 < 10 ^ 10 := h
    obtain ⟨h1, h2, h3⟩ := num_digits (n + 1)
    have l := num_len (n + 1) hm
    have s := sg_neg n
    refine ⟨num ((n + 1 : Nat) : Int), h1, ?_, l, ?_, .inr s⟩
    · rw [len_sg]
      exact List.length_pos_iff.mpr h2
    · have hl : (num (Int.negSucc n)).length ≤ 4300 := by
        rw [len_sg, s, List.length_cons, ← len_sg]
        omega
      have := intText_neg s h1 h2 hl
      rw [h3] at this
      rw [this]
      rfl
/-- a dash or none, and one to ten figures: some number -/
theorem text_num {x f : Str} (h : AllDigits (sg f)) (h1 : 1 ≤ f.length) (h2 : f.length ≤ 10) (e : sg x = sg f ∨ sg x = 45 :: sg f) : ∃ n, PySem.intText? x = some n := by
  have ne : sg f ≠ [] := by
    rw [len_sg] at h1
    exact List.length_pos_iff.mp h1
  rcases e with e | e
  · exact ⟨_, intText_digits (x := x) (by rw [show x.cps.toList = sg f from e]; exact h) (by rw [show x.cps.toList = sg f from e]; exact ne) (by rw [len_sg, e, ← len_sg]; omega)⟩
  · exact ⟨_, intText_neg e h ne (by rw [len_sg, e, List.length_cons, ← len_sg]; omega)⟩
end IL
namespace K70
open PySem PySem.Spec PyProof.Rows L2 IL
def top (i : Nat) : Stmt := PySem.Challenge.pw_lookhouse_k70_whole_written.main.body.getD i (.Pass ⟨0, 0, 0, 0⟩)
def clsBody : Stmt → List Stmt
  | .ClassDef _ _ _ b _ _ _ _ _ _ _ => b
  | _ => []
def reads : List Str := ["at", "there", "sum", "many"]
def twos : List Str := ["plus", "less", "times", "same", "below"]
/-- what the top has written: numbers, texts, refusals; no name of a built-in is hidden -/
structure Gl (ca : XC → Addr) (K : PySem.W.Frag) (w : World) (mg : Str → Option Value) : Prop where
  g_MOST_WORD : ∃ t, mg "MOST_WORD" = some (.int 6 t)
  g_MOST_DEEP : ∃ t, mg "MOST_DEEP" = some (.int 4 t)
  g_MOST_WORTH : ∃ t, mg "MOST_WORTH" = some (.int 1000000000 t)
  g_MOST_NUMBER : ∃ t, mg "MOST_NUMBER" = some (.int 1000000000 t)
  g_MOST_WITHIN : ∃ t, mg "MOST_WITHIN" = some (.int 8 t)
  g_MOST_FIGURES : ∃ t, mg "MOST_FIGURES" = some (.int 10 t)
  g_SMALL : ∃ t, mg "SMALL" = some (.str "abcdefghijklmnopqrstuvwxyz" t)
  g_FIGURES : ∃ t, mg "FIGURES" = some (.str "0123456789" t)
  s_READING : KStrs K mg "READING" reads
  s_TWO : KStrs K mg "TWO" twos
  r_BadLook : RsOk K mg ca .look "BadLook"
  r_BadText : RsOk K mg ca .text "BadText"
  r_BadState : RsOk K mg ca .state "BadState"
  x_look : PySem.W.exmOne K (.ref (ca .look)) (.ref (ca .look)) = some true
  b_isinstance : mg "isinstance" = none
  b_str : mg "str" = none
  b_tuple : mg "tuple" = none
  b_dict : mg "dict" = none
  b_int : mg "int" = none
  b_bool : mg "bool" = none
  b_len : mg "len" = none
  b_abs : mg "abs" = none
  b_all : mg "all" = none
  b_any : mg "any" = none
  b_sum : mg "sum" = none
  b_max : mg "max" = none
  b_min : mg "min" = none
  b_range : mg "range" = none
  b_sorted : mg "sorted" = none
  b_list : mg "list" = none
section
variable {T : Gam} {ca : XC → Addr} {P : Program} {w : World} {K : PySem.W.Frag} {mg : Str → Option Value} {base : Heap}
abbrev s_is_word : Stmt := top 14
abbrev n_is_word : List Str := ["thing", "sign"]
theorem sc_is_word : FnScope n_is_word ["thing"] (defScope s_is_word) := ⟨rfl, rfl, rfl, by decide +kernel, rfl, by decide +kernel, by decide +kernel⟩
def m_is_word : Sv := (sRet (mAndV (m1 (gIsi "str") (mVar 0)) (mAndV (mChain gLe gLe (mC (.int 1)) (mB gLen (mCons (mVar 0) mNil)) (mC (.int 6))) (mB gAll (mCons (mComp (mItems strOf (mVar 0)) 1 mYes (m2 gInS (mVar 1) (mC (.str "abcdefghijklmnopqrstuvwxyz")))) mNil)))))
def g_is_word : List D → Res D := fun ds => outR (m_is_word (startE 2 ds))
theorem ok_is_word (G : Gl ca K w mg) (U : FunAs K mg "is_word" "is_word" s_is_word ["thing"])  : FnD T ca P w K mg base 1 "is_word" 1 g_is_word := fn_as U rfl sc_is_word fun f cdv A outer s H E hr => by
  have hu := hu_at hr
  have tk : L2N.Takes (cxOf (L2N.CX P w) P w K mg base n_is_word "is_word" (defScope s_is_word) f cdv A outer s H E) (fun c d _ H => E c d H) := L2N.takes_of rfl rfl rfl rfl
  unfold m_is_word
  exact (iss_one (is_ret (ie_and (ie_isi (by decide +kernel) (ie_var (i := 0)) G.b_str G.b_isinstance) (ie_and (ie_chain op_le op_le imp_le imp_le ie_int (ie_callB call_lenG imp_len (by decide +kernel) G.b_len (ia_cons (ie_var (i := 0)) ia_nil)) (ie_gi G.g_MOST_WORD)) (ie_one (ie_callB (cr_all rfl) imp_all (by decide +kernel) G.b_all (ia_cons (ie_comp (j := 1) sc_is_word.nd (ii_str (ie_var (i := 0))) (by show blkC n_is_word (defScope s_is_word) _ _ = true; decide +kernel) (fun _ _ _ _ _ => pg_name sc_is_word.nd rfl (Or.inl rfl) (.inr rfl)) (fun _ _ _ _ _ => its_nil) (fun _ _ _ _ _ => (ie_cmp op_in_sign imp_inS (ie_var (i := 1)) (ie_gs G.g_SMALL)))) ia_nil)))))))
abbrev s_is_path : Stmt := top 15
abbrev n_is_path : List Str := ["thing", "word"]
theorem sc_is_path : FnScope n_is_path ["thing"] (defScope s_is_path) := ⟨rfl, rfl, rfl, by decide +kernel, rfl, by decide +kernel, by decide +kernel⟩
def m_is_path : Sv := (sRet (mAndV (m1 (gIsi "tuple") (mVar 0)) (mAndV (m2 gLe (mB gLen (mCons (mVar 0) mNil)) (mC (.int 4))) (mB gAll (mCons (mComp (mItems tupOf (mVar 0)) 1 mYes (mCallN 1 g_is_word (mCons (mVar 1) mNil))) mNil)))))
def g_is_path : List D → Res D := fun ds => outR (m_is_path (startE 2 ds))
theorem ok_is_path (G : Gl ca K w mg) (U : FunAs K mg "is_path" "is_path" s_is_path ["thing"]) (F_is_word : FnD T ca P w K mg base 1 "is_word" 1 g_is_word) : FnD T ca P w K mg base 2 "is_path" 1 g_is_path := fn_as U rfl sc_is_path fun f cdv A outer s H E hr => by
  have hu := hu_at hr
  have tk : L2N.Takes (cxOf (L2N.CX P w) P w K mg base n_is_path "is_path" (defScope s_is_path) f cdv A outer s H E) (fun c d _ H => E c d H) := L2N.takes_of rfl rfl rfl rfl
  unfold m_is_path
  exact (iss_one (is_ret (ie_and (ie_isi (by decide +kernel) (ie_var (i := 0)) G.b_tuple G.b_isinstance) (ie_and (ie_cmp op_le imp_le (ie_callB call_lenG imp_len (by decide +kernel) G.b_len (ia_cons (ie_var (i := 0)) ia_nil)) (ie_gi G.g_MOST_DEEP)) (ie_one (ie_callB (cr_all rfl) imp_all (by decide +kernel) G.b_all (ia_cons (ie_comp (j := 1) sc_is_path.nd (ii_tup (ie_var (i := 0))) (by show blkC n_is_path (defScope s_is_path) _ _ = true; decide +kernel) (fun _ _ _ _ _ => pg_name sc_is_path.nd rfl (Or.inl rfl) (.inr rfl)) (fun _ _ _ _ _ => its_nil) (fun _ _ _ _ _ => (ie_call F_is_word hr (by decide) tk0 (ia_cons (ie_var (i := 1)) ia_nil)))) ia_nil)))))))
abbrev s_is_number : Stmt := top 16
abbrev n_is_number : List Str := ["thing", "most"]
theorem sc_is_number : FnScope n_is_number ["thing", "most"] (defScope s_is_number) := ⟨rfl, rfl, rfl, by decide +kernel, rfl, by decide +kernel, by decide +kernel⟩
def m_is_number : Sv := (sRet (mAndV (m1 (gIsi "int") (mVar 0)) (mAndV (mNotV (m1 (gIsi "bool") (mVar 0))) (m2 gLe (mB gAbs (mCons (mVar 0) mNil)) (mVar 1)))))
def g_is_number : List D → Res D := fun ds => outR (m_is_number (startE 2 ds))
theorem ok_is_number (G : Gl ca K w mg) (U : FunAs K mg "is_number" "is_number" s_is_number ["thing", "most"])  : FnD T ca P w K mg base 1 "is_number" 2 g_is_number := fn_as U rfl sc_is_number fun f cdv A outer s H E hr => by
  have hu := hu_at hr
  have tk : L2N.Takes (cxOf (L2N.CX P w) P w K mg base n_is_number "is_number" (defScope s_is_number) f cdv A outer s H E) (fun c d _ H => E c d H) := L2N.takes_of rfl rfl rfl rfl
  unfold m_is_number
  exact (iss_one (is_ret (ie_and (ie_isi (by decide +kernel) (ie_var (i := 0)) G.b_int G.b_isinstance) (ie_and (ie_not (ie_isi (by decide +kernel) (ie_var (i := 0)) G.b_bool G.b_isinstance)) (ie_one (ie_cmp op_le imp_le (ie_callB call_abs imp_abs (by decide +kernel) G.b_abs (ia_cons (ie_var (i := 0)) ia_nil)) (ie_var (i := 1))))))))
abbrev s_is_state : Stmt := top 17
abbrev n_is_state : List Str := ["state", "path", "many"]
theorem sc_is_state : FnScope n_is_state ["state"] (defScope s_is_state) := ⟨rfl, rfl, rfl, by decide +kernel, rfl, by decide +kernel, by decide +kernel⟩
def m_is_state : Sv := (mSeq (sIf (mNot (mT (m1 (gIsi "dict") (mVar 0)))) (sRet (mC (.bool false))) mSkip)
    (mSeq (sForD 0 1 (mSeq (sIf (mOr (mNot (mT (mCallN 1 g_is_path (mCons (mVar 1) mNil)))) (mOr (mT (m2 gEq (mVar 1) (mB gTup mNil))) (mNot (mT (mCallN 2 g_is_number (mCons (m2 gDGet (mVar 0) (mVar 1)) (mCons (mC (.int 1000000000)) mNil))))))) (sRet (mC (.bool false))) mSkip)
    (sIf (mT (mB gAny (mCons (mComp (mRng (mCons (mC (.int 1)) (mCons (mB gLen (mCons (mVar 1) mNil)) mNil))) 2 mYes (m2 gDIn (mSl (mVar 1) none (some (mVar 2))) (mVar 0))) mNil))) (sRet (mC (.bool false))) mSkip)))
    (sRet (mC (.bool true)))))
def g_is_state : List D → Res D := fun ds => outR (m_is_state (startE 3 ds))
theorem ok_is_state (G : Gl ca K w mg) (U : FunAs K mg "is_state" "is_state" s_is_state ["state"]) (F_is_path : FnD T ca P w K mg base 2 "is_path" 1 g_is_path) (F_is_number : FnD T ca P w K mg base 1 "is_number" 2 g_is_number) : FnD T ca P w K mg base 3 "is_state" 1 g_is_state := fn_as U rfl sc_is_state fun f cdv A outer s H E hr => by
  have hu := hu_at hr
  have tk : L2N.Takes (cxOf (L2N.CX P w) P w K mg base n_is_state "is_state" (defScope s_is_state) f cdv A outer s H E) (fun c d _ H => E c d H) := L2N.takes_of rfl rfl rfl rfl
  unfold m_is_state
  exact (iss_cons (is_if (it_not (it_val (ie_isi (by decide +kernel) (ie_var (i := 0)) G.b_dict G.b_isinstance))) (iss_one (is_ret ie_bl)) iss_nil)
    (iss_cons (is_forD (k := 0) (i := 1) (passes_of rfl) sc_is_state.nd (iss_cons (is_if (IW.it (iw_or (it_not (it_val (ie_call F_is_path hr (by decide) tk (ia_cons (ie_var (i := 1)) ia_nil)))) (iw_or (it_cmp (op_eqP hu) imp_eq (ie_var (i := 1)) (ie_tup ia_nil)) (iw_or1 (it_not (it_val (ie_call F_is_number hr (by decide) tk (ia_cons (ie_dget hu (ie_var (i := 0)) (ie_var (i := 1))) (ia_cons (ie_gi G.g_MOST_WORTH) ia_nil))))))))) (iss_one (is_ret ie_bl)) iss_nil)
    (iss_one (is_if (it_val (ie_callB (cr_any rfl) imp_any (by decide +kernel) G.b_any (ia_cons (ie_comp (j := 2) sc_is_state.nd (ii_rng2 G.b_range (ia_cons ie_int (ia_cons (ie_callB call_lenG imp_len (by decide +kernel) G.b_len (ia_cons (ie_var (i := 1)) ia_nil)) ia_nil)) (h2 := (len_cons _ _ 1 (len_cons _ _ 0 len_nil)))) (by show blkC n_is_state (defScope s_is_state) _ _ = true; decide +kernel) (fun _ _ _ _ _ => pg_name sc_is_state.nd rfl (Or.inl rfl) (.inr rfl)) (fun _ _ _ _ _ => its_nil) (fun _ _ _ _ _ => (ie_din hu (ie_sl (ie_var (i := 1)) io_no (io_some (ie_var (i := 2)))) (ie_var (i := 0))))) ia_nil))) (iss_one (is_ret ie_bl)) iss_nil))))
    (iss_one (is_ret ie_bl))))
abbrev s_need_state : Stmt := top 18
abbrev n_need_state : List Str := ["state"]
theorem sc_need_state : FnScope n_need_state ["state"] (defScope s_need_state) := ⟨rfl, rfl, rfl, by decide +kernel, rfl, by decide +kernel, by decide +kernel⟩
def m_need_state : Sv := (sIf (mNot (mT (mCallN 1 g_is_state (mCons (mVar 0) mNil)))) (sRaise .state) mSkip)
def g_need_state : List D → Res D := fun ds => outR (m_need_state (startE 1 ds))
theorem ok_need_state (G : Gl ca K w mg) (U : FunAs K mg "need_state" "need_state" s_need_state ["state"]) (F_is_state : FnD T ca P w K mg base 3 "is_state" 1 g_is_state) : FnD T ca P w K mg base 4 "need_state" 1 g_need_state := fn_as U rfl sc_need_state fun f cdv A outer s H E hr => by
  have hu := hu_at hr
  have tk : L2N.Takes (cxOf (L2N.CX P w) P w K mg base n_need_state "need_state" (defScope s_need_state) f cdv A outer s H E) (fun c d _ H => E c d H) := L2N.takes_of rfl rfl rfl rfl
  unfold m_need_state
  exact (iss_one (is_if (it_not (it_val (ie_call F_is_state hr (by decide) tk (ia_cons (ie_var (i := 0)) ia_nil)))) (iss_one (is_rs G.r_BadState tk)) iss_nil))
abbrev s_need : Stmt := top 24
abbrev n_need : List Str := ["good"]
theorem sc_need : FnScope n_need ["good"] (defScope s_need) := ⟨rfl, rfl, rfl, by decide +kernel, rfl, by decide +kernel, by decide +kernel⟩
def m_need : Sv := (sIf (mNot (mT (mVar 0))) (sRaise .look) mSkip)
def g_need : List D → Res D := fun ds => outR (m_need (startE 1 ds))
theorem ok_need (G : Gl ca K w mg) (U : FunAs K mg "need" "need" s_need ["good"])  : FnD T ca P w K mg base 1 "need" 1 g_need := fn_as U rfl sc_need fun f cdv A outer s H E hr => by
  have hu := hu_at hr
  have tk : L2N.Takes (cxOf (L2N.CX P w) P w K mg base n_need "need" (defScope s_need) f cdv A outer s H E) (fun c d _ H => E c d H) := L2N.takes_of rfl rfl rfl rfl
  unfold m_need
  exact (iss_one (is_if (it_not (it_val (ie_var (i := 0)))) (iss_one (is_rs G.r_BadLook tk)) iss_nil))
abbrev s_need_deep : Stmt := top 25
abbrev n_need_deep : List Str := ["term", "deep", "word", "one"]
theorem sc_need_deep : FnScope n_need_deep ["term", "deep"] (defScope s_need_deep) := ⟨rfl, rfl, rfl, by decide +kernel, rfl, by decide +kernel, by decide +kernel⟩
def m_need_deep (g_rec : List D → Res D) : Sv := (mSeq (sExpr (mCallN 1 g_need (mCons (mAndV (m1 (gIsi "tuple") (mVar 0)) (mAndV (m2 gGt (mB gLen (mCons (mVar 0) mNil)) (mC (.int 1))) (mAndV (m1 (gIsi "str") (m2 gIx (mVar 0) (mC (.int 0)))) (m2 gLt (mVar 1) (mC (.int 8)))))) mNil)))
    (mSeq (sAsg 2 (m2 gIx (mVar 0) (mC (.int 0))))
    (sIf (mT (m2 gEq (mVar 2) (mC (.str "num")))) (sExpr (mCallN 1 g_need (mCons (mAndV (m2 gEq (mB gLen (mCons (mVar 0) mNil)) (mC (.int 2))) (mCallN 2 g_is_number (mCons (m2 gIx (mVar 0) (mC (.int 1))) (mCons (mC (.int 1000000000)) mNil)))) mNil))) (sIf (mT (m1 (gInT reads) (mVar 2))) (sExpr (mCallN 1 g_need (mCons (mAndV (m2 gEq (mB gLen (mCons (mVar 0) mNil)) (mC (.int 2))) (mCallN 1 g_is_path (mCons (m2 gIx (mVar 0) (mC (.int 1))) mNil))) mNil))) (sIf (mT (m2 gEq (mVar 2) (mC (.str "look")))) (sExpr (mCallN 1 g_need (mCons (mAndV (m2 gEq (mB gLen (mCons (mVar 0) mNil)) (mC (.int 2))) (mCallN 1 g_is_word (mCons (m2 gIx (mVar 0) (mC (.int 1))) mNil))) mNil))) (mSeq (sExpr (mCallN 1 g_need (mCons (mOrV (mAndV (m1 (gInT twos) (mVar 2)) (m2 gEq (mB gLen (mCons (mVar 0) mNil)) (mC (.int 3)))) (mAndV (m2 gEq (mVar 2) (mC (.str "when"))) (m2 gEq (mB gLen (mCons (mVar 0) mNil)) (mC (.int 4))))) mNil)))
    (sFor (mItems tupOf (mSl (mVar 0) (some (mC (.int 1))) none)) 3 (sExpr (mCallN 2 g_rec (mCons (mVar 3) (mCons (m2 gAdd (mVar 1) (mC (.int 1))) mNil)))))))))))
def g_need_deep : Nat → List D → Res D
  | 0 => fun _ => .stuck
  | n + 1 => fun ds => outR (m_need_deep (g_need_deep n) (startE 4 ds))
theorem ok_need_deep (G : Gl ca K w mg) (U : FunAs K mg "need_deep" "need_deep" s_need_deep ["term", "deep"]) (F_need : FnD T ca P w K mg base 1 "need" 1 g_need) (F_is_number : FnD T ca P w K mg base 1 "is_number" 2 g_is_number) (F_is_path : FnD T ca P w K mg base 2 "is_path" 1 g_is_path) (F_is_word : FnD T ca P w K mg base 1 "is_word" 1 g_is_word) : ∀ n : Nat, FnD T ca P w K mg base (2 + n) "need_deep" 2 (g_need_deep n)
  | 0 => fnD_stuck U rfl
  | n + 1 => by
    have F_need_deep := ok_need_deep G U F_need F_is_number F_is_path F_is_word n
    exact fn_as U rfl sc_need_deep fun f cdv A outer s H E hr => by
      have hr : Room (2 + n) (A.deeper (envOfC "need_deep" (defScope s_need_deep) s.heap.objs.size f cdv)) := hr
      have hu := hu_at hr
      have tk : L2N.Takes (cxOf (L2N.CX P w) P w K mg base n_need_deep "need_deep" (defScope s_need_deep) f cdv A outer s H E) (fun c d _ H => E c d H) := L2N.takes_of rfl rfl rfl rfl
      unfold m_need_deep
      exact (iss_cons (is_expr (ie_call F_need hr (by omega) tk (ia_cons (ie_and (ie_isi (by decide +kernel) (ie_var (i := 0)) G.b_tuple G.b_isinstance) (ie_and (ie_cmp op_gt imp_gt (ie_callB call_lenG imp_len (by decide +kernel) G.b_len (ia_cons (ie_var (i := 0)) ia_nil)) ie_int) (ie_and (ie_isi (by decide +kernel) (ie_ix ix_seq imp_ix (ie_var (i := 0)) ie_int) G.b_str G.b_isinstance) (ie_one (ie_cmp op_lt imp_lt (ie_var (i := 1)) (ie_gi G.g_MOST_WITHIN)))))) ia_nil)))
        (iss_cons (is_asg (i := 2) sc_need_deep.nd (ie_ix ix_seq imp_ix (ie_var (i := 0)) ie_int))
        (iss_one (is_if (it_cmp (op_eqP hu) imp_eq (ie_var (i := 2)) ie_str) (iss_one (is_expr (ie_call F_need hr (by omega) tk (ia_cons (ie_and (ie_cmp (op_eqP hu) imp_eq (ie_callB call_lenG imp_len (by decide +kernel) G.b_len (ia_cons (ie_var (i := 0)) ia_nil)) ie_int) (ie_one (ie_call F_is_number hr (by omega) tk (ia_cons (ie_ix ix_seq imp_ix (ie_var (i := 0)) ie_int) (ia_cons (ie_gi G.g_MOST_NUMBER) ia_nil))))) ia_nil)))) (iss_one (is_if (it_inT G.s_READING (ie_var (i := 2))) (iss_one (is_expr (ie_call F_need hr (by omega) tk (ia_cons (ie_and (ie_cmp (op_eqP hu) imp_eq (ie_callB call_lenG imp_len (by decide +kernel) G.b_len (ia_cons (ie_var (i := 0)) ia_nil)) ie_int) (ie_one (ie_call F_is_path hr (by omega) tk (ia_cons (ie_ix ix_seq imp_ix (ie_var (i := 0)) ie_int) ia_nil)))) ia_nil)))) (iss_one (is_if (it_cmp (op_eqP hu) imp_eq (ie_var (i := 2)) ie_str) (iss_one (is_expr (ie_call F_need hr (by omega) tk (ia_cons (ie_and (ie_cmp (op_eqP hu) imp_eq (ie_callB call_lenG imp_len (by decide +kernel) G.b_len (ia_cons (ie_var (i := 0)) ia_nil)) ie_int) (ie_one (ie_call F_is_word hr (by omega) tk (ia_cons (ie_ix ix_seq imp_ix (ie_var (i := 0)) ie_int) ia_nil)))) ia_nil)))) (iss_cons (is_expr (ie_call F_need hr (by omega) tk (ia_cons (ie_or (ie_and (ie_inT G.s_TWO (ie_var (i := 2))) (ie_one (ie_cmp (op_eqP hu) imp_eq (ie_callB call_lenG imp_len (by decide +kernel) G.b_len (ia_cons (ie_var (i := 0)) ia_nil)) ie_int))) (ie_one (ie_and (ie_cmp (op_eqP hu) imp_eq (ie_var (i := 2)) ie_str) (ie_one (ie_cmp (op_eqP hu) imp_eq (ie_callB call_lenG imp_len (by decide +kernel) G.b_len (ia_cons (ie_var (i := 0)) ia_nil)) ie_int))))) ia_nil)))
        (iss_one (is_for (i := 3) (passes_of rfl) sc_need_deep.nd (ii_tup (ie_sl (ie_var (i := 0)) (io_some ie_int) io_no)) (iss_one (is_expr (ie_call F_need_deep hr (by omega) tk (ia_cons (ie_var (i := 3)) (ia_cons (ie_op op_addI imp_add (ie_var (i := 1)) ie_int) ia_nil))))))))))))))))
abbrev s_need_term : Stmt := top 26
abbrev n_need_term : List Str := ["term"]
theorem sc_need_term : FnScope n_need_term ["term"] (defScope s_need_term) := ⟨rfl, rfl, rfl, by decide +kernel, rfl, by decide +kernel, by decide +kernel⟩
def m_need_term : Sv := (sExpr (mCallN 2 (g_need_deep 12) (mCons (mVar 0) (mCons (mC (.int 0)) mNil))))
def g_need_term : List D → Res D := fun ds => outR (m_need_term (startE 1 ds))
theorem ok_need_term (G : Gl ca K w mg) (U : FunAs K mg "need_term" "need_term" s_need_term ["term"]) (F_need_deep : FnD T ca P w K mg base 14 "need_deep" 2 (g_need_deep 12)) : FnD T ca P w K mg base 15 "need_term" 1 g_need_term := fn_as U rfl sc_need_term fun f cdv A outer s H E hr => by
  have hu := hu_at hr
  have tk : L2N.Takes (cxOf (L2N.CX P w) P w K mg base n_need_term "need_term" (defScope s_need_term) f cdv A outer s H E) (fun c d _ H => E c d H) := L2N.takes_of rfl rfl rfl rfl
  unfold m_need_term
  exact (iss_one (is_expr (ie_call F_need_deep hr (by decide) tk (ia_cons (ie_var (i := 0)) (ia_cons ie_int ia_nil)))))
abbrev s_need_text : Stmt := top 30
abbrev n_need_text : List Str := ["good"]
theorem sc_need_text : FnScope n_need_text ["good"] (defScope s_need_text) := ⟨rfl, rfl, rfl, by decide +kernel, rfl, by decide +kernel, by decide +kernel⟩
def m_need_text : Sv := (sIf (mNot (mT (mVar 0))) (sRaise .text) mSkip)
def g_need_text : List D → Res D := fun ds => outR (m_need_text (startE 1 ds))
theorem ok_need_text (G : Gl ca K w mg) (U : FunAs K mg "need_text" "need_text" s_need_text ["good"])  : FnD T ca P w K mg base 1 "need_text" 1 g_need_text := fn_as U rfl sc_need_text fun f cdv A outer s H E hr => by
  have hu := hu_at hr
  have tk : L2N.Takes (cxOf (L2N.CX P w) P w K mg base n_need_text "need_text" (defScope s_need_text) f cdv A outer s H E) (fun c d _ H => E c d H) := L2N.takes_of rfl rfl rfl rfl
  unfold m_need_text
  exact (iss_one (is_if (it_not (it_val (ie_var (i := 0)))) (iss_one (is_rs G.r_BadText tk)) iss_nil))
abbrev s_path_text : Stmt := top 31
abbrev n_path_text : List Str := ["path"]
theorem sc_path_text : FnScope n_path_text ["path"] (defScope s_path_text) := ⟨rfl, rfl, rfl, by decide +kernel, rfl, by decide +kernel, by decide +kernel⟩
def m_path_text : Sv := (sRet (mIf (mT (m2 gNe (mVar 0) (mB gTup mNil))) (mM1 gJoin (mC (.str ".")) (mVar 0)) (mC (.str "."))))
def g_path_text : List D → Res D := fun ds => outR (m_path_text (startE 1 ds))
theorem ok_path_text (G : Gl ca K w mg) (U : FunAs K mg "path_text" "path_text" s_path_text ["path"])  : FnD T ca P w K mg base 1 "path_text" 1 g_path_text := fn_as U rfl sc_path_text fun f cdv A outer s H E hr => by
  have hu := hu_at hr
  have tk : L2N.Takes (cxOf (L2N.CX P w) P w K mg base n_path_text "path_text" (defScope s_path_text) f cdv A outer s H E) (fun c d _ H => E c d H) := L2N.takes_of rfl rfl rfl rfl
  unfold m_path_text
  exact (iss_one (is_ret (ie_if (it_cmp (op_neP hu) imp_ne (ie_var (i := 0)) (ie_tup ia_nil)) (ie_join ie_str (ie_var (i := 0))) ie_str)))
abbrev s_path_in : Stmt := top 32
abbrev n_path_in : List Str := ["word"]
theorem sc_path_in : FnScope n_path_in ["word"] (defScope s_path_in) := ⟨rfl, rfl, rfl, by decide +kernel, rfl, by decide +kernel, by decide +kernel⟩
def m_path_in : Sv := (sRet (mIf (mT (m2 gNe (mVar 0) (mC (.str ".")))) (mB gTupOf (mCons (mM1 gSplit (mVar 0) (mC (.str "."))) mNil)) (mB gTup mNil)))
def g_path_in : List D → Res D := fun ds => outR (m_path_in (startE 1 ds))
theorem ok_path_in (G : Gl ca K w mg) (U : FunAs K mg "path_in" "path_in" s_path_in ["word"])  : FnD T ca P w K mg base 1 "path_in" 1 g_path_in := fn_as U rfl sc_path_in fun f cdv A outer s H E hr => by
  have hu := hu_at hr
  have tk : L2N.Takes (cxOf (L2N.CX P w) P w K mg base n_path_in "path_in" (defScope s_path_in) f cdv A outer s H E) (fun c d _ H => E c d H) := L2N.takes_of rfl rfl rfl rfl
  unfold m_path_in
  exact (iss_one (is_ret (ie_if (it_cmp (op_neP hu) imp_ne (ie_var (i := 0)) ie_str) (ie_callTy call_tuple_of imp_tupOf (by decide +kernel) G.b_tuple (ia_cons (ie_split (ie_var (i := 0)) ie_str) ia_nil)) (ie_tup ia_nil))))
abbrev s_number_in : Stmt := top 33
abbrev n_number_in : List Str := ["word", "figures", "sign"]
theorem sc_number_in : FnScope n_number_in ["word"] (defScope s_number_in) := ⟨rfl, rfl, rfl, by decide +kernel, rfl, by decide +kernel, by decide +kernel⟩
def m_number_in : Sv := (mSeq (sAsg 1 (mIf (mT (m2 gEq (mSl (mVar 0) none (some (mC (.int 1)))) (mC (.str "-")))) (mSl (mVar 0) (some (mC (.int 1))) none) (mVar 0)))
    (mSeq (sExpr (mCallN 1 g_need_text (mCons (mAndV (mChain gLe gLe (mC (.int 1)) (mB gLen (mCons (mVar 1) mNil)) (mC (.int 10))) (mB gAll (mCons (mComp (mItems strOf (mVar 1)) 2 mYes (m2 gInS (mVar 2) (mC (.str "0123456789")))) mNil))) mNil)))
    (sRet (mB gIntS (mCons (mVar 0) mNil)))))
def g_number_in : List D → Res D := fun ds => outR (m_number_in (startE 3 ds))
theorem ok_number_in (G : Gl ca K w mg) (U : FunAs K mg "number_in" "number_in" s_number_in ["word"]) (F_need_text : FnD T ca P w K mg base 1 "need_text" 1 g_need_text) : FnD T ca P w K mg base 2 "number_in" 1 g_number_in := fn_as U rfl sc_number_in fun f cdv A outer s H E hr => by
  have hu := hu_at hr
  have tk : L2N.Takes (cxOf (L2N.CX P w) P w K mg base n_number_in "number_in" (defScope s_number_in) f cdv A outer s H E) (fun c d _ H => E c d H) := L2N.takes_of rfl rfl rfl rfl
  unfold m_number_in
  exact (iss_cons (is_asg (i := 1) sc_number_in.nd (ie_if (it_cmp (op_eqP hu) imp_eq (ie_sl (ie_var (i := 0)) io_no (io_some ie_int)) ie_str) (ie_sl (ie_var (i := 0)) (io_some ie_int) io_no) (ie_var (i := 0))))
    (iss_cons (is_expr (ie_call F_need_text hr (by decide) tk (ia_cons (ie_and (ie_chain op_le op_le imp_le imp_le ie_int (ie_callB call_lenG imp_len (by decide +kernel) G.b_len (ia_cons (ie_var (i := 1)) ia_nil)) (ie_gi G.g_MOST_FIGURES)) (ie_one (ie_callB (cr_all rfl) imp_all (by decide +kernel) G.b_all (ia_cons (ie_comp (j := 2) sc_number_in.nd (ii_str (ie_var (i := 1))) (by show blkC n_number_in (defScope s_number_in) _ _ = true; decide +kernel) (fun _ _ _ _ _ => pg_name sc_number_in.nd rfl (Or.inl rfl) (.inr rfl)) (fun _ _ _ _ _ => its_nil) (fun _ _ _ _ _ => (ie_cmp op_in_sign imp_inS (ie_var (i := 2)) (ie_gs G.g_FIGURES)))) ia_nil)))) ia_nil)))
    (iss_one (is_ret (ie_callTy call_int_str imp_intS (by decide +kernel) G.b_int (ia_cons (ie_var (i := 0)) ia_nil))))))
abbrev s_state_text : Stmt := top 34
abbrev n_state_text : List Str := ["state", "path"]
theorem sc_state_text : FnScope n_state_text ["state"] (defScope s_state_text) := ⟨rfl, rfl, rfl, by decide +kernel, rfl, by decide +kernel, by decide +kernel⟩
def m_state_text : Sv := (mSeq (sExpr (mCallN 1 g_need_state (mCons (mVar 0) mNil)))
    (sRet (mM1 gJoin (mC (.str "\n")) (mComp (mItems lstOf (mB gSortT (mCons (mVar 0) mNil))) 1 mYes (m2 gAdd (m2 gAdd (mCallN 1 g_path_text (mCons (mVar 1) mNil)) (mC (.str " "))) (mB gStrI (mCons (m2 gDGet (mVar 0) (mVar 1)) mNil)))))))
def g_state_text : List D → Res D := fun ds => outR (m_state_text (startE 2 ds))
theorem ok_state_text (G : Gl ca K w mg) (U : FunAs K mg "state_text" "state_text" s_state_text ["state"]) (F_need_state : FnD T ca P w K mg base 4 "need_state" 1 g_need_state) (F_path_text : FnD T ca P w K mg base 1 "path_text" 1 g_path_text) : FnD T ca P w K mg base 5 "state_text" 1 g_state_text := fn_as U rfl sc_state_text fun f cdv A outer s H E hr => by
  have hu := hu_at hr
  have tk : L2N.Takes (cxOf (L2N.CX P w) P w K mg base n_state_text "state_text" (defScope s_state_text) f cdv A outer s H E) (fun c d _ H => E c d H) := L2N.takes_of rfl rfl rfl rfl
  unfold m_state_text
  exact (iss_cons (is_expr (ie_call F_need_state hr (by decide) tk (ia_cons (ie_var (i := 0)) ia_nil)))
    (iss_one (is_ret (ie_join ie_str (ie_comp (j := 1) sc_state_text.nd (ii_list (ie_callB (cr_sortT rfl hu) imp_sortT (by decide +kernel) G.b_sorted (ia_cons (ie_var (i := 0)) ia_nil))) (by show blkC n_state_text (defScope s_state_text) _ _ = true; decide +kernel) (fun _ _ _ _ _ => pg_name sc_state_text.nd rfl (Or.inl rfl) (.inr rfl)) (fun _ _ _ _ _ => its_nil) (fun _ _ _ _ _ => (ie_op op_addI imp_add (ie_op op_addI imp_add (ie_call F_path_text hr (by decide) tk0 (ia_cons (ie_var (i := 1)) ia_nil)) ie_str) (ie_callTy call_str_int imp_strI (by decide +kernel) G.b_str (ia_cons (ie_dget hu (ie_var (i := 0)) (ie_var (i := 1))) ia_nil)))))))))
abbrev s_state_in : Stmt := top 35
abbrev n_state_in : List Str := ["text", "found", "row", "words"]
theorem sc_state_in : FnScope n_state_in ["text"] (defScope s_state_in) := ⟨rfl, rfl, rfl, by decide +kernel, rfl, by decide +kernel, by decide +kernel⟩
def m_state_in : Sv := (mSeq (sExpr (mCallN 1 g_need_text (mCons (m1 (gIsi "str") (mVar 0)) mNil)))
    (mSeq (sOwnD 1)
    (mSeq (sFor (mItems lstOf (mIf (mT (m2 gNe (mVar 0) (mC (.str "")))) (mM1 gSplit (mVar 0) (mC (.str "\n"))) (mB gLst mNil))) 2 (mSeq (sAsg 3 (mM1 gSplit (mVar 2) (mC (.str " "))))
    (mSeq (sExpr (mCallN 1 g_need_text (mCons (m2 gEq (mB gLen (mCons (mVar 3) mNil)) (mC (.int 2))) mNil)))
    (sPutT 1 (mCallN 1 g_number_in (mCons (m2 gIx (mVar 3) (mC (.int 1))) mNil)) (mCallN 1 g_path_in (mCons (m2 gIx (mVar 3) (mC (.int 0))) mNil))))))
    (mSeq (sExprV (mCallN 1 g_need_text (mCons (mAndV (mCallN 1 g_is_state (mCons (mVar 1) mNil)) (m2 gEq (mCallN 1 g_state_text (mCons (mVar 1) mNil)) (mVar 0))) mNil)))
    (sRet (mVar 1))))))
def g_state_in : List D → Res D := fun ds => outR (m_state_in (startE 4 ds))
theorem ok_state_in (G : Gl ca K w mg) (U : FunAs K mg "state_in" "state_in" s_state_in ["text"]) (F_need_text : FnD T ca P w K mg base 1 "need_text" 1 g_need_text) (F_path_in : FnD T ca P w K mg base 1 "path_in" 1 g_path_in) (F_number_in : FnD T ca P w K mg base 2 "number_in" 1 g_number_in) (F_is_state : FnD T ca P w K mg base 3 "is_state" 1 g_is_state) (F_state_text : FnD T ca P w K mg base 5 "state_text" 1 g_state_text) : FnD T ca P w K mg base 6 "state_in" 1 g_state_in := fn_as U rfl sc_state_in fun f cdv A outer s H E hr => by
  have hu := hu_at hr
  have tk : L2N.Takes (cxOf (L2N.CX P w) P w K mg base n_state_in "state_in" (defScope s_state_in) f cdv A outer s H E) (fun c d _ H => E c d H) := L2N.takes_of rfl rfl rfl rfl
  unfold m_state_in
  exact (iss_cons (is_expr (ie_call F_need_text hr (by decide) tk (ia_cons (ie_isi (by decide +kernel) (ie_var (i := 0)) G.b_str G.b_isinstance) ia_nil)))
    (iss_cons (is_ownD (i := 1) sc_state_in.nd)
    (iss_cons (is_for (i := 2) (passes_of rfl) sc_state_in.nd (ii_list (ie_if (it_cmp (op_neP hu) imp_ne (ie_var (i := 0)) ie_str) (ie_split (ie_var (i := 0)) ie_str) (ie_lst ia_nil))) (iss_cons (is_asg (i := 3) sc_state_in.nd (ie_split (ie_var (i := 2)) ie_str))
    (iss_cons (is_expr (ie_call F_need_text hr (by decide) tk (ia_cons (ie_cmp (op_eqP hu) imp_eq (ie_callB call_lenG imp_len (by decide +kernel) G.b_len (ia_cons (ie_var (i := 3)) ia_nil)) ie_int) ia_nil)))
    (iss_one (is_putT (i := 1) hu (ie_call F_path_in hr (by decide) tk (ia_cons (ie_ix ix_seq imp_ix (ie_var (i := 3)) ie_int) ia_nil)) (ie_call F_number_in hr (by decide) tk (ia_cons (ie_ix ix_seq imp_ix (ie_var (i := 3)) ie_int) ia_nil)))))))
    (iss_cons (is_exprV (ie_call F_need_text hr (by decide) tk (ia_cons (ie_and (ie_call F_is_state hr (by decide) tk (ia_cons (ie_var (i := 1)) ia_nil)) (ie_one (ie_cmp (op_eqP hu) imp_eq (ie_call F_state_text hr (by decide) tk (ia_cons (ie_var (i := 1)) ia_nil)) (ie_var (i := 0))))) ia_nil)))
    (iss_one (is_ret (ie_var (i := 1))))))))
abbrev s_text_of : Stmt := top 36
abbrev n_text_of : List Str := ["term", "word"]
theorem sc_text_of : FnScope n_text_of ["term"] (defScope s_text_of) := ⟨rfl, rfl, rfl, by decide +kernel, rfl, by decide +kernel, by decide +kernel⟩
def m_text_of (g_rec : List D → Res D) : Sv := (mSeq (sAsg 1 (m2 gIx (mVar 0) (mC (.int 0))))
    (mSeq (sIf (mT (m2 gEq (mVar 1) (mC (.str "num")))) (sRet (mB gStrI (mCons (m2 gIx (mVar 0) (mC (.int 1))) mNil))) mSkip)
    (mSeq (sIf (mT (m1 (gInT reads) (mVar 1))) (sRet (m2 gAdd (m2 gAdd (mVar 1) (mC (.str " "))) (mCallN 1 g_path_text (mCons (m2 gIx (mVar 0) (mC (.int 1))) mNil)))) mSkip)
    (mSeq (sIf (mT (m2 gEq (mVar 1) (mC (.str "look")))) (sRet (m2 gAdd (m2 gAdd (mVar 1) (mC (.str " "))) (m2 gIx (mVar 0) (mC (.int 1))))) mSkip)
    (mSeq (sIf (mT (m2 gEq (mVar 1) (mC (.str "when")))) (sRet (m2 gAdd (m2 gAdd (m2 gAdd (m2 gAdd (m2 gAdd (m2 gAdd (mC (.str "(when ")) (mCallN 1 g_rec (mCons (m2 gIx (mVar 0) (mC (.int 1))) mNil))) (mC (.str " then "))) (mCallN 1 g_rec (mCons (m2 gIx (mVar 0) (mC (.int 2))) mNil))) (mC (.str " else "))) (mCallN 1 g_rec (mCons (m2 gIx (mVar 0) (mC (.int 3))) mNil))) (mC (.str ")")))) mSkip)
    (sRet (m2 gAdd (m2 gAdd (m2 gAdd (m2 gAdd (m2 gAdd (m2 gAdd (mC (.str "(")) (mCallN 1 g_rec (mCons (m2 gIx (mVar 0) (mC (.int 1))) mNil))) (mC (.str " "))) (mVar 1)) (mC (.str " "))) (mCallN 1 g_rec (mCons (m2 gIx (mVar 0) (mC (.int 2))) mNil))) (mC (.str ")")))))))))
def g_text_of : Nat → List D → Res D
  | 0 => fun _ => .stuck
  | n + 1 => fun ds => outR (m_text_of (g_text_of n) (startE 2 ds))
theorem ok_text_of (G : Gl ca K w mg) (U : FunAs K mg "text_of" "text_of" s_text_of ["term"]) (F_path_text : FnD T ca P w K mg base 1 "path_text" 1 g_path_text) : ∀ n : Nat, FnD T ca P w K mg base (1 + n) "text_of" 1 (g_text_of n)
  | 0 => fnD_stuck U rfl
  | n + 1 => by
    have F_text_of := ok_text_of G U F_path_text n
    exact fn_as U rfl sc_text_of fun f cdv A outer s H E hr => by
      have hr : Room (1 + n) (A.deeper (envOfC "text_of" (defScope s_text_of) s.heap.objs.size f cdv)) := hr
      have hu := hu_at hr
      have tk : L2N.Takes (cxOf (L2N.CX P w) P w K mg base n_text_of "text_of" (defScope s_text_of) f cdv A outer s H E) (fun c d _ H => E c d H) := L2N.takes_of rfl rfl rfl rfl
      unfold m_text_of
      exact (iss_cons (is_asg (i := 1) sc_text_of.nd (ie_ix ix_seq imp_ix (ie_var (i := 0)) ie_int))
        (iss_cons (is_if (it_cmp (op_eqP hu) imp_eq (ie_var (i := 1)) ie_str) (iss_one (is_ret (ie_callTy call_str_int imp_strI (by decide +kernel) G.b_str (ia_cons (ie_ix ix_seq imp_ix (ie_var (i := 0)) ie_int) ia_nil)))) iss_nil)
        (iss_cons (is_if (it_inT G.s_READING (ie_var (i := 1))) (iss_one (is_ret (ie_op op_addI imp_add (ie_op op_addI imp_add (ie_var (i := 1)) ie_str) (ie_call F_path_text hr (by omega) tk (ia_cons (ie_ix ix_seq imp_ix (ie_var (i := 0)) ie_int) ia_nil))))) iss_nil)
        (iss_cons (is_if (it_cmp (op_eqP hu) imp_eq (ie_var (i := 1)) ie_str) (iss_one (is_ret (ie_op op_addI imp_add (ie_op op_addI imp_add (ie_var (i := 1)) ie_str) (ie_ix ix_seq imp_ix (ie_var (i := 0)) ie_int)))) iss_nil)
        (iss_cons (is_if (it_cmp (op_eqP hu) imp_eq (ie_var (i := 1)) ie_str) (iss_one (is_ret (ie_op op_addI imp_add (ie_op op_addI imp_add (ie_op op_addI imp_add (ie_op op_addI imp_add (ie_op op_addI imp_add (ie_op op_addI imp_add ie_str (ie_call F_text_of hr (by omega) tk (ia_cons (ie_ix ix_seq imp_ix (ie_var (i := 0)) ie_int) ia_nil))) ie_str) (ie_call F_text_of hr (by omega) tk (ia_cons (ie_ix ix_seq imp_ix (ie_var (i := 0)) ie_int) ia_nil))) ie_str) (ie_call F_text_of hr (by omega) tk (ia_cons (ie_ix ix_seq imp_ix (ie_var (i := 0)) ie_int) ia_nil))) ie_str))) iss_nil)
        (iss_one (is_ret (ie_op op_addI imp_add (ie_op op_addI imp_add (ie_op op_addI imp_add (ie_op op_addI imp_add (ie_op op_addI imp_add (ie_op op_addI imp_add ie_str (ie_call F_text_of hr (by omega) tk (ia_cons (ie_ix ix_seq imp_ix (ie_var (i := 0)) ie_int) ia_nil))) ie_str) (ie_var (i := 1))) ie_str) (ie_call F_text_of hr (by omega) tk (ia_cons (ie_ix ix_seq imp_ix (ie_var (i := 0)) ie_int) ia_nil))) ie_str))))))))
abbrev s_term_text : Stmt := top 37
abbrev n_term_text : List Str := ["term"]
theorem sc_term_text : FnScope n_term_text ["term"] (defScope s_term_text) := ⟨rfl, rfl, rfl, by decide +kernel, rfl, by decide +kernel, by decide +kernel⟩
def m_term_text : Sv := (mSeq (sExpr (mCallN 1 g_need_term (mCons (mVar 0) mNil)))
    (sRet (mCallN 1 (g_text_of 12) (mCons (mVar 0) mNil))))
def g_term_text : List D → Res D := fun ds => outR (m_term_text (startE 1 ds))
theorem ok_term_text (G : Gl ca K w mg) (U : FunAs K mg "term_text" "term_text" s_term_text ["term"]) (F_need_term : FnD T ca P w K mg base 15 "need_term" 1 g_need_term) (F_text_of : FnD T ca P w K mg base 13 "text_of" 1 (g_text_of 12)) : FnD T ca P w K mg base 16 "term_text" 1 g_term_text := fn_as U rfl sc_term_text fun f cdv A outer s H E hr => by
  have hu := hu_at hr
  have tk : L2N.Takes (cxOf (L2N.CX P w) P w K mg base n_term_text "term_text" (defScope s_term_text) f cdv A outer s H E) (fun c d _ H => E c d H) := L2N.takes_of rfl rfl rfl rfl
  unfold m_term_text
  exact (iss_cons (is_expr (ie_call F_need_term hr (by decide) tk (ia_cons (ie_var (i := 0)) ia_nil)))
    (iss_one (is_ret (ie_call F_text_of hr (by decide) tk (ia_cons (ie_var (i := 0)) ia_nil)))))
abbrev s_law_cell : Stmt := top 41
abbrev n_law_cell : List Str := ["_law_script", "_law_k"]
theorem sc_law_cell : FnScope n_law_cell ["_law_script", "_law_k"] (defScope s_law_cell) := ⟨rfl, rfl, rfl, by decide +kernel, rfl, by decide +kernel, by decide +kernel⟩
def m_law_cell : Sv := (mSeq (sIf (mT (m2 gEq (mVar 0) (mB gLst mNil))) (sRet (m2 gMul (mVar 1) (mC (.int 7919)))) mSkip)
    (sRet (m2 gAdd (m2 gIx (mVar 0) (m2 gMod (mVar 1) (mB gLen (mCons (mVar 0) mNil)))) (m2 gMul (m2 gDiv (mVar 1) (mB gLen (mCons (mVar 0) mNil))) (mC (.int 104729))))))
def g_law_cell : List D → Res D := fun ds => outR (m_law_cell (startE 2 ds))
theorem ok_law_cell (G : Gl ca K w mg) (U : FunAs K mg "_law_cell" "_law_cell" s_law_cell ["_law_script", "_law_k"])  : FnD T ca P w K mg base 1 "_law_cell" 2 g_law_cell := fn_as U rfl sc_law_cell fun f cdv A outer s H E hr => by
  have hu := hu_at hr
  have tk : L2N.Takes (cxOf (L2N.CX P w) P w K mg base n_law_cell "_law_cell" (defScope s_law_cell) f cdv A outer s H E) (fun c d _ H => E c d H) := L2N.takes_of rfl rfl rfl rfl
  unfold m_law_cell
  exact (iss_cons (is_if (it_cmp (op_eqP hu) imp_eq (ie_var (i := 0)) (ie_lst ia_nil)) (iss_one (is_ret (ie_op op_mulI imp_mul (ie_var (i := 1)) ie_int))) iss_nil)
    (iss_one (is_ret (ie_op op_addI imp_add (ie_ix ix_seq imp_ix (ie_var (i := 0)) (ie_op op_mod imp_mod (ie_var (i := 1)) (ie_callB call_lenG imp_len (by decide +kernel) G.b_len (ia_cons (ie_var (i := 0)) ia_nil)))) (ie_op op_mulI imp_mul (ie_op op_fdivW imp_div (ie_var (i := 1)) (ie_callB call_lenG imp_len (by decide +kernel) G.b_len (ia_cons (ie_var (i := 0)) ia_nil))) ie_int)))))
abbrev s_law_drawn : Stmt := top 42
abbrev n_law_drawn : List Str := ["_law_cell_here", "_law_k", "_law_more"]
theorem sc_law_drawn : FnScope n_law_drawn ["_law_cell_here", "_law_k"] (defScope s_law_drawn) := ⟨rfl, rfl, rfl, by decide +kernel, rfl, by decide +kernel, by decide +kernel⟩
def m_law_drawn : Sv := (mSeq (sAsg 2 (m2 gMod (m2 gAdd (m2 gMul (mVar 0) (mC (.int 6364136223846793005))) (m2 gMul (m2 gAdd (mVar 1) (mC (.int 1))) (mC (.int 1442695040888963407)))) (mC (.int 340282366920938463463374607431768211507))))
    (mSeq (sAsg 2 (m2 gMod (m2 gMul (mVar 2) (mVar 2)) (mC (.int 340282366920938463463374607431768211297))))
    (mSeq (sAsg 2 (m2 gMul (m2 gMul (m2 gAdd (m2 gMod (mVar 2) (mC (.int 18446744073709551557))) (mC (.int 1))) (m2 gAdd (m2 gDiv (mVar 2) (mC (.int 18446744073709551557))) (mC (.int 1)))) (mVar 2)))
    (sRet (m2 gMod (mVar 2) (mC (.int 340282366920938463463374607431768211507)))))))
def g_law_drawn : List D → Res D := fun ds => outR (m_law_drawn (startE 3 ds))
theorem ok_law_drawn (G : Gl ca K w mg) (U : FunAs K mg "_law_drawn" "_law_drawn" s_law_drawn ["_law_cell_here", "_law_k"])  : FnD T ca P w K mg base 1 "_law_drawn" 2 g_law_drawn := fn_as U rfl sc_law_drawn fun f cdv A outer s H E hr => by
  have hu := hu_at hr
  have tk : L2N.Takes (cxOf (L2N.CX P w) P w K mg base n_law_drawn "_law_drawn" (defScope s_law_drawn) f cdv A outer s H E) (fun c d _ H => E c d H) := L2N.takes_of rfl rfl rfl rfl
  unfold m_law_drawn
  exact (iss_cons (is_asg (i := 2) sc_law_drawn.nd (ie_op op_mod imp_mod (ie_op op_addI imp_add (ie_op op_mulI imp_mul (ie_var (i := 0)) ie_int) (ie_op op_mulI imp_mul (ie_op op_addI imp_add (ie_var (i := 1)) ie_int) ie_int)) ie_int))
    (iss_cons (is_asg (i := 2) sc_law_drawn.nd (ie_op op_mod imp_mod (ie_op op_mulI imp_mul (ie_var (i := 2)) (ie_var (i := 2))) ie_int))
    (iss_cons (is_asg (i := 2) sc_law_drawn.nd (ie_op op_mulI imp_mul (ie_op op_mulI imp_mul (ie_op op_addI imp_add (ie_op op_mod imp_mod (ie_var (i := 2)) ie_int) ie_int) (ie_op op_addI imp_add (ie_op op_fdivW imp_div (ie_var (i := 2)) ie_int) ie_int)) (ie_var (i := 2))))
    (iss_one (is_ret (ie_op op_mod imp_mod (ie_var (i := 2)) ie_int))))))
abbrev s_law_path : Stmt := top 45
abbrev n_law_path : List Str := ["_law_more", "_law_deep", "_law_j"]
theorem sc_law_path : FnScope n_law_path ["_law_more", "_law_deep"] (defScope s_law_path) := ⟨rfl, rfl, rfl, by decide +kernel, rfl, by decide +kernel, by decide +kernel⟩
def m_law_path : Sv := (sRet (mB gTupOf (mCons (mComp (mRng (mCons (m2 gMod (mVar 0) (m2 gAdd (mVar 1) (mC (.int 1)))) mNil)) 2 mYes (m2 gIx (mB gLst (mCons (mC (.str "a")) (mCons (mC (.str "b")) (mCons (mC (.str "cc")) mNil)))) (m2 gMod (mCallN 2 g_law_drawn (mCons (mVar 0) (mCons (mVar 2) mNil))) (mC (.int 3))))) mNil)))
def g_law_path : List D → Res D := fun ds => outR (m_law_path (startE 3 ds))
theorem ok_law_path (G : Gl ca K w mg) (U : FunAs K mg "_law_path" "_law_path" s_law_path ["_law_more", "_law_deep"]) (F_law_drawn : FnD T ca P w K mg base 1 "_law_drawn" 2 g_law_drawn) : FnD T ca P w K mg base 2 "_law_path" 2 g_law_path := fn_as U rfl sc_law_path fun f cdv A outer s H E hr => by
  have hu := hu_at hr
  have tk : L2N.Takes (cxOf (L2N.CX P w) P w K mg base n_law_path "_law_path" (defScope s_law_path) f cdv A outer s H E) (fun c d _ H => E c d H) := L2N.takes_of rfl rfl rfl rfl
  unfold m_law_path
  exact (iss_one (is_ret (ie_callTy call_tuple_of imp_tupOf (by decide +kernel) G.b_tuple (ia_cons (ie_comp (j := 2) sc_law_path.nd (ii_rng1 G.b_range (ia_cons (ie_op op_mod imp_mod (ie_var (i := 0)) (ie_op op_addI imp_add (ie_var (i := 1)) ie_int)) ia_nil) (h1 := (len_cons _ _ 0 len_nil))) (by show blkC n_law_path (defScope s_law_path) _ _ = true; decide +kernel) (fun _ _ _ _ _ => pg_name sc_law_path.nd rfl (Or.inl rfl) (.inr rfl)) (fun _ _ _ _ _ => its_nil) (fun _ _ _ _ _ => (ie_ix ix_seq imp_ix (ie_lst (ia_cons ie_str (ia_cons ie_str (ia_cons ie_str ia_nil)))) (ie_op op_mod imp_mod (ie_call F_law_drawn hr (by decide) tk0 (ia_cons (ie_var (i := 0)) (ia_cons (ie_var (i := 2)) ia_nil))) ie_int)))) ia_nil))))
abbrev s_law_state : Stmt := top 46
abbrev n_law_state : List Str := ["_law_more", "_law_many", "_law_found", "_law_j", "_law_here", "_law_path_here", "_law_one"]
theorem sc_law_state : FnScope n_law_state ["_law_more", "_law_many"] (defScope s_law_state) := ⟨rfl, rfl, rfl, by decide +kernel, rfl, by decide +kernel, by decide +kernel⟩
def m_law_state : Sv := (mSeq (sOwnD 2)
    (mSeq (sFor (mRng (mCons (m2 gMod (mVar 0) (m2 gAdd (mVar 1) (mC (.int 1)))) mNil)) 3 (mSeq (sAsg 4 (mCallN 2 g_law_drawn (mCons (mVar 0) (mCons (mVar 3) mNil))))
    (mSeq (sAsg 5 (m2 gAdd (mB gTup (mCons (m2 gIx (mB gLst (mCons (mC (.str "a")) (mCons (mC (.str "b")) (mCons (mC (.str "cc")) mNil)))) (m2 gMod (m2 gDiv (mVar 4) (mC (.int 4))) (mC (.int 3)))) mNil)) (mCallN 2 g_law_path (mCons (mCallN 2 g_law_drawn (mCons (mVar 4) (mCons (mC (.int 1)) mNil))) (mCons (mC (.int 3)) mNil)))))
    (sIf (mNot (mT (mB gAny (mCons (mCompD 2 6 mYes (mOrV (m2 gEq (mSl (mVar 5) none (some (mB gLen (mCons (mVar 6) mNil)))) (mVar 6)) (m2 gEq (mSl (mVar 6) none (some (mB gLen (mCons (mVar 5) mNil)))) (mVar 5)))) mNil)))) (sPutT 2 (m2 gIx (mB gLst (mCons (m2 gMod (m2 gDiv (mVar 4) (mC (.int 64))) (mC (.int 10))) (mCons (mC (.int 0)) (mCons (m2 gSub (mC (.int 0)) (m2 gMod (m2 gDiv (mVar 4) (mC (.int 64))) (mC (.int 50)))) (mCons (mC (.int 1000000000)) mNil))))) (m2 gMod (m2 gDiv (mVar 4) (m2 gPow (mC (.int 2)) (mC (.int 20)))) (mC (.int 4)))) (mVar 5)) mSkip))))
    (sRet (mVar 2))))
def g_law_state : List D → Res D := fun ds => outR (m_law_state (startE 7 ds))
theorem ok_law_state (G : Gl ca K w mg) (U : FunAs K mg "_law_state" "_law_state" s_law_state ["_law_more", "_law_many"]) (F_law_drawn : FnD T ca P w K mg base 1 "_law_drawn" 2 g_law_drawn) (F_law_path : FnD T ca P w K mg base 2 "_law_path" 2 g_law_path) : FnD T ca P w K mg base 3 "_law_state" 2 g_law_state := fn_as U rfl sc_law_state fun f cdv A outer s H E hr => by
  have hu := hu_at hr
  have tk : L2N.Takes (cxOf (L2N.CX P w) P w K mg base n_law_state "_law_state" (defScope s_law_state) f cdv A outer s H E) (fun c d _ H => E c d H) := L2N.takes_of rfl rfl rfl rfl
  unfold m_law_state
  exact (iss_cons (is_ownD (i := 2) sc_law_state.nd)
    (iss_cons (is_for (i := 3) (passes_of rfl) sc_law_state.nd (ii_rng1 G.b_range (ia_cons (ie_op op_mod imp_mod (ie_var (i := 0)) (ie_op op_addI imp_add (ie_var (i := 1)) ie_int)) ia_nil) (h1 := (len_cons _ _ 0 len_nil))) (iss_cons (is_asg (i := 4) sc_law_state.nd (ie_call F_law_drawn hr (by decide) tk (ia_cons (ie_var (i := 0)) (ia_cons (ie_var (i := 3)) ia_nil))))
    (iss_cons (is_asg (i := 5) sc_law_state.nd (ie_op op_addI imp_add (ie_tup (ia_cons (ie_ix ix_seq imp_ix (ie_lst (ia_cons ie_str (ia_cons ie_str (ia_cons ie_str ia_nil)))) (ie_op op_mod imp_mod (ie_op op_fdivW imp_div (ie_var (i := 4)) ie_int) ie_int)) ia_nil)) (ie_call F_law_path hr (by decide) tk (ia_cons (ie_call F_law_drawn hr (by decide) tk (ia_cons (ie_var (i := 4)) (ia_cons ie_int ia_nil))) (ia_cons ie_int ia_nil)))))
    (iss_one (is_if (it_not (it_val (ie_callB (cr_any rfl) imp_any (by decide +kernel) G.b_any (ia_cons (ie_compD (k := 2) (j := 6) sc_law_state.nd (by show blkC n_law_state (defScope s_law_state) _ _ = true; decide +kernel) (fun _ _ _ _ _ => pg_name sc_law_state.nd rfl (Or.inl rfl) (.inr rfl)) (fun _ _ _ _ _ => its_nil) (fun _ _ _ _ _ => (ie_or (ie_cmp (op_eqP hu) imp_eq (ie_sl (ie_var (i := 5)) io_no (io_some (ie_callB call_lenG imp_len (by decide +kernel) G.b_len (ia_cons (ie_var (i := 6)) ia_nil)))) (ie_var (i := 6))) (ie_one (ie_cmp (op_eqP hu) imp_eq (ie_sl (ie_var (i := 6)) io_no (io_some (ie_callB call_lenG imp_len (by decide +kernel) G.b_len (ia_cons (ie_var (i := 5)) ia_nil)))) (ie_var (i := 5))))))) ia_nil)))) (iss_one (is_putT (i := 2) hu (ie_var (i := 5)) (ie_ix ix_seq imp_ix (ie_lst (ia_cons (ie_op op_mod imp_mod (ie_op op_fdivW imp_div (ie_var (i := 4)) ie_int) ie_int) (ia_cons ie_int (ia_cons (ie_op op_sub imp_sub ie_int (ie_op op_mod imp_mod (ie_op op_fdivW imp_div (ie_var (i := 4)) ie_int) ie_int)) (ia_cons ie_int ia_nil))))) (ie_op op_mod imp_mod (ie_op op_fdivW imp_div (ie_var (i := 4)) (ie_op op_pow imp_pow ie_int ie_int)) ie_int)))) iss_nil)))))
    (iss_one (is_ret (ie_var (i := 2))))))
abbrev s_law_is_state : Stmt := top 47
abbrev n_law_is_state : List Str := ["_law_state_here", "_law_path_here", "_law_many"]
theorem sc_law_is_state : FnScope n_law_is_state ["_law_state_here"] (defScope s_law_is_state) := ⟨rfl, rfl, rfl, by decide +kernel, rfl, by decide +kernel, by decide +kernel⟩
def m_law_is_state : Sv := (mSeq (sForD 0 1 (mSeq (sIf (mOr (mNot (mT (mChain gLe gLe (mC (.int 1)) (mB gLen (mCons (mVar 1) mNil)) (mC (.int 4))))) (mT (m2 gGt (mB gAbs (mCons (m2 gDGet (mVar 0) (mVar 1)) mNil)) (mC (.int 1000000000))))) (sRet (mC (.bool false))) mSkip)
    (sIf (mT (mB gAny (mCons (mComp (mRng (mCons (mC (.int 1)) (mCons (mB gLen (mCons (mVar 1) mNil)) mNil))) 2 mYes (m2 gDIn (mSl (mVar 1) none (some (mVar 2))) (mVar 0))) mNil))) (sRet (mC (.bool false))) mSkip)))
    (sRet (mC (.bool true))))
def g_law_is_state : List D → Res D := fun ds => outR (m_law_is_state (startE 3 ds))
theorem ok_law_is_state (G : Gl ca K w mg) (U : FunAs K mg "_law_is_state" "_law_is_state" s_law_is_state ["_law_state_here"])  : FnD T ca P w K mg base 1 "_law_is_state" 1 g_law_is_state := fn_as U rfl sc_law_is_state fun f cdv A outer s H E hr => by
  have hu := hu_at hr
  have tk : L2N.Takes (cxOf (L2N.CX P w) P w K mg base n_law_is_state "_law_is_state" (defScope s_law_is_state) f cdv A outer s H E) (fun c d _ H => E c d H) := L2N.takes_of rfl rfl rfl rfl
  unfold m_law_is_state
  exact (iss_cons (is_forD (k := 0) (i := 1) (passes_of rfl) sc_law_is_state.nd (iss_cons (is_if (IW.it (iw_or (it_not (it_chain op_le op_le imp_le imp_le ie_int (ie_callB call_lenG imp_len (by decide +kernel) G.b_len (ia_cons (ie_var (i := 1)) ia_nil)) ie_int)) (iw_or1 (it_cmp op_gt imp_gt (ie_callB call_abs imp_abs (by decide +kernel) G.b_abs (ia_cons (ie_dget hu (ie_var (i := 0)) (ie_var (i := 1))) ia_nil)) ie_int)))) (iss_one (is_ret ie_bl)) iss_nil)
    (iss_one (is_if (it_val (ie_callB (cr_any rfl) imp_any (by decide +kernel) G.b_any (ia_cons (ie_comp (j := 2) sc_law_is_state.nd (ii_rng2 G.b_range (ia_cons ie_int (ia_cons (ie_callB call_lenG imp_len (by decide +kernel) G.b_len (ia_cons (ie_var (i := 1)) ia_nil)) ia_nil)) (h2 := (len_cons _ _ 1 (len_cons _ _ 0 len_nil)))) (by show blkC n_law_is_state (defScope s_law_is_state) _ _ = true; decide +kernel) (fun _ _ _ _ _ => pg_name sc_law_is_state.nd rfl (Or.inl rfl) (.inr rfl)) (fun _ _ _ _ _ => its_nil) (fun _ _ _ _ _ => (ie_din hu (ie_sl (ie_var (i := 1)) io_no (io_some (ie_var (i := 2)))) (ie_var (i := 0))))) ia_nil))) (iss_one (is_ret ie_bl)) iss_nil))))
    (iss_one (is_ret ie_bl)))
abbrev s_law_term : Stmt := top 48
abbrev n_law_term : List Str := ["_law_more", "_law_deep", "_law_names", "_law_here", "_law_row", "_law_way", "_law_j"]
theorem sc_law_term : FnScope n_law_term ["_law_more", "_law_deep", "_law_names"] (defScope s_law_term) := ⟨rfl, rfl, rfl, by decide +kernel, rfl, by decide +kernel, by decide +kernel⟩
def m_law_term (g_rec : List D → Res D) : Sv := (mSeq (sAsg 3 (m2 gDiv (mVar 0) (mC (.int 16))))
    (mSeq (sIf (mOr (mT (m2 gEq (mVar 1) (mC (.int 0)))) (mT (m2 gEq (m2 gMod (mVar 0) (mC (.int 4))) (mC (.int 0))))) (mSeq (sIf (mAnd (mT (m2 gNe (mVar 2) (mB gLst mNil))) (mT (m2 gEq (m2 gMod (mVar 3) (mC (.int 3))) (mC (.int 0))))) (sRet (mB gTup (mCons (mC (.str "look")) (mCons (m2 gIx (mVar 2) (m2 gMod (m2 gDiv (mVar 3) (mC (.int 4))) (mB gLen (mCons (mVar 2) mNil)))) mNil)))) mSkip)
    (mSeq (sIf (mT (m2 gEq (m2 gMod (mVar 3) (mC (.int 7))) (mC (.int 0)))) (sRet (mB gTup (mCons (mC (.str "num")) (mCons (m2 gIx (mB gLst (mCons (m2 gMod (m2 gDiv (mVar 3) (mC (.int 8))) (mC (.int 10))) (mCons (m2 gSub (mC (.int 0)) (m2 gMod (m2 gDiv (mVar 3) (mC (.int 8))) (mC (.int 9)))) (mCons (mC (.int 1000000000)) mNil)))) (m2 gMod (m2 gDiv (mVar 3) (mC (.int 128))) (mC (.int 3)))) mNil)))) mSkip)
    (sRet (mB gTup (mCons (m2 gIx (mB gLst (mCons (mC (.str "at")) (mCons (mC (.str "sum")) (mCons (mC (.str "many")) (mCons (mC (.str "there")) (mCons (mC (.str "at")) mNil)))))) (m2 gMod (m2 gDiv (mVar 3) (mC (.int 8))) (mC (.int 5)))) (mCons (mCallN 2 g_law_path (mCons (mCallN 2 g_law_drawn (mCons (mVar 3) (mCons (mC (.int 1)) mNil))) (mCons (mC (.int 3)) mNil))) mNil)))))) mSkip)
    (mSeq (sAsg 4 (mComp (mRng (mCons (mC (.int 3)) mNil)) 6 mYes (mCallN 3 g_rec (mCons (mCallN 2 g_law_drawn (mCons (mVar 3) (mCons (mVar 6) mNil))) (mCons (m2 gSub (mVar 1) (mC (.int 1))) (mCons (mVar 2) mNil))))))
    (mSeq (sAsg 5 (m2 gMod (mVar 3) (mC (.int 8))))
    (mSeq (sIf (mT (m2 gLt (mVar 5) (mC (.int 5)))) (sRet (mB gTup (mCons (m2 gIx (mB gLst (mCons (mC (.str "plus")) (mCons (mC (.str "less")) (mCons (mC (.str "times")) (mCons (mC (.str "same")) (mCons (mC (.str "below")) mNil)))))) (mVar 5)) (mCons (m2 gIx (mVar 4) (mC (.int 0))) (mCons (m2 gIx (mVar 4) (mC (.int 1))) mNil))))) mSkip)
    (sRet (mB gTup (mCons (mC (.str "when")) (mCons (m2 gIx (mVar 4) (mC (.int 0))) (mCons (m2 gIx (mVar 4) (mC (.int 1))) (mCons (m2 gIx (mVar 4) (mC (.int 2))) mNil)))))))))))
def g_law_term : Nat → List D → Res D
  | 0 => fun _ => .stuck
  | n + 1 => fun ds => outR (m_law_term (g_law_term n) (startE 7 ds))
theorem ok_law_term (G : Gl ca K w mg) (U : FunAs K mg "_law_term" "_law_term" s_law_term ["_law_more", "_law_deep", "_law_names"]) (F_law_drawn : FnD T ca P w K mg base 1 "_law_drawn" 2 g_law_drawn) (F_law_path : FnD T ca P w K mg base 2 "_law_path" 2 g_law_path) : ∀ n : Nat, FnD T ca P w K mg base (2 + n) "_law_term" 3 (g_law_term n)
  | 0 => fnD_stuck U rfl
  | n + 1 => by
    have F_law_term := ok_law_term G U F_law_drawn F_law_path n
    exact fn_as U rfl sc_law_term fun f cdv A outer s H E hr => by
      have hr : Room (2 + n) (A.deeper (envOfC "_law_term" (defScope s_law_term) s.heap.objs.size f cdv)) := hr
      have hu := hu_at hr
      have tk : L2N.Takes (cxOf (L2N.CX P w) P w K mg base n_law_term "_law_term" (defScope s_law_term) f cdv A outer s H E) (fun c d _ H => E c d H) := L2N.takes_of rfl rfl rfl rfl
      unfold m_law_term
      exact (iss_cons (is_asg (i := 3) sc_law_term.nd (ie_op op_fdivW imp_div (ie_var (i := 0)) ie_int))
        (iss_cons (is_if (IW.it (iw_or (it_cmp (op_eqP hu) imp_eq (ie_var (i := 1)) ie_int) (iw_or1 (it_cmp (op_eqP hu) imp_eq (ie_op op_mod imp_mod (ie_var (i := 0)) ie_int) ie_int)))) (iss_cons (is_if (IW.it (iw_and (it_cmp (op_neP hu) imp_ne (ie_var (i := 2)) (ie_lst ia_nil)) (iw_and1 (it_cmp (op_eqP hu) imp_eq (ie_op op_mod imp_mod (ie_var (i := 3)) ie_int) ie_int)))) (iss_one (is_ret (ie_tup (ia_cons ie_str (ia_cons (ie_ix ix_seq imp_ix (ie_var (i := 2)) (ie_op op_mod imp_mod (ie_op op_fdivW imp_div (ie_var (i := 3)) ie_int) (ie_callB call_lenG imp_len (by decide +kernel) G.b_len (ia_cons (ie_var (i := 2)) ia_nil)))) ia_nil))))) iss_nil)
        (iss_cons (is_if (it_cmp (op_eqP hu) imp_eq (ie_op op_mod imp_mod (ie_var (i := 3)) ie_int) ie_int) (iss_one (is_ret (ie_tup (ia_cons ie_str (ia_cons (ie_ix ix_seq imp_ix (ie_lst (ia_cons (ie_op op_mod imp_mod (ie_op op_fdivW imp_div (ie_var (i := 3)) ie_int) ie_int) (ia_cons (ie_op op_sub imp_sub ie_int (ie_op op_mod imp_mod (ie_op op_fdivW imp_div (ie_var (i := 3)) ie_int) ie_int)) (ia_cons ie_int ia_nil)))) (ie_op op_mod imp_mod (ie_op op_fdivW imp_div (ie_var (i := 3)) ie_int) ie_int)) ia_nil))))) iss_nil)
        (iss_one (is_ret (ie_tup (ia_cons (ie_ix ix_seq imp_ix (ie_lst (ia_cons ie_str (ia_cons ie_str (ia_cons ie_str (ia_cons ie_str (ia_cons ie_str ia_nil)))))) (ie_op op_mod imp_mod (ie_op op_fdivW imp_div (ie_var (i := 3)) ie_int) ie_int)) (ia_cons (ie_call F_law_path hr (by omega) tk (ia_cons (ie_call F_law_drawn hr (by omega) tk (ia_cons (ie_var (i := 3)) (ia_cons ie_int ia_nil))) (ia_cons ie_int ia_nil))) ia_nil))))))) iss_nil)
        (iss_cons (is_setLc (i := 4) (j := 6) sc_law_term.nd (ii_rng1 G.b_range (ia_cons ie_int ia_nil) (h1 := (len_cons _ _ 0 len_nil))) (by show blkC n_law_term (defScope s_law_term) _ _ = true; decide +kernel) (fun _ _ _ _ _ => pg_name sc_law_term.nd rfl (Or.inl rfl) (.inr rfl)) (fun _ _ _ _ _ => its_nil) (fun _ _ _ _ _ => (ie_call F_law_term hr (by omega) tk0 (ia_cons (ie_call F_law_drawn hr (by omega) tk0 (ia_cons (ie_var (i := 3)) (ia_cons (ie_var (i := 6)) ia_nil))) (ia_cons (ie_op op_sub imp_sub (ie_var (i := 1)) ie_int) (ia_cons (ie_var (i := 2)) ia_nil))))))
        (iss_cons (is_asg (i := 5) sc_law_term.nd (ie_op op_mod imp_mod (ie_var (i := 3)) ie_int))
        (iss_cons (is_if (it_cmp op_lt imp_lt (ie_var (i := 5)) ie_int) (iss_one (is_ret (ie_tup (ia_cons (ie_ix ix_seq imp_ix (ie_lst (ia_cons ie_str (ia_cons ie_str (ia_cons ie_str (ia_cons ie_str (ia_cons ie_str ia_nil)))))) (ie_var (i := 5))) (ia_cons (ie_ix ix_seq imp_ix (ie_var (i := 4)) ie_int) (ia_cons (ie_ix ix_seq imp_ix (ie_var (i := 4)) ie_int) ia_nil)))))) iss_nil)
        (iss_one (is_ret (ie_tup (ia_cons ie_str (ia_cons (ie_ix ix_seq imp_ix (ie_var (i := 4)) ie_int) (ia_cons (ie_ix ix_seq imp_ix (ie_var (i := 4)) ie_int) (ia_cons (ie_ix ix_seq imp_ix (ie_var (i := 4)) ie_int) ia_nil))))))))))))
abbrev s_law_path_text : Stmt := top 49
abbrev n_law_path_text : List Str := ["_law_path_here"]
theorem sc_law_path_text : FnScope n_law_path_text ["_law_path_here"] (defScope s_law_path_text) := ⟨rfl, rfl, rfl, by decide +kernel, rfl, by decide +kernel, by decide +kernel⟩
def m_law_path_text : Sv := (sRet (mIf (mT (m2 gNe (mVar 0) (mB gTup mNil))) (mM1 gJoin (mC (.str ".")) (mVar 0)) (mC (.str "."))))
def g_law_path_text : List D → Res D := fun ds => outR (m_law_path_text (startE 1 ds))
theorem ok_law_path_text (G : Gl ca K w mg) (U : FunAs K mg "_law_path_text" "_law_path_text" s_law_path_text ["_law_path_here"])  : FnD T ca P w K mg base 1 "_law_path_text" 1 g_law_path_text := fn_as U rfl sc_law_path_text fun f cdv A outer s H E hr => by
  have hu := hu_at hr
  have tk : L2N.Takes (cxOf (L2N.CX P w) P w K mg base n_law_path_text "_law_path_text" (defScope s_law_path_text) f cdv A outer s H E) (fun c d _ H => E c d H) := L2N.takes_of rfl rfl rfl rfl
  unfold m_law_path_text
  exact (iss_one (is_ret (ie_if (it_cmp (op_neP hu) imp_ne (ie_var (i := 0)) (ie_tup ia_nil)) (ie_join ie_str (ie_var (i := 0))) ie_str)))
abbrev s_law_state_text : Stmt := top 50
abbrev n_law_state_text : List Str := ["_law_state_here", "_law_path_here"]
theorem sc_law_state_text : FnScope n_law_state_text ["_law_state_here"] (defScope s_law_state_text) := ⟨rfl, rfl, rfl, by decide +kernel, rfl, by decide +kernel, by decide +kernel⟩
def m_law_state_text : Sv := (sRet (mM1 gJoin (mC (.str "\n")) (mComp (mItems lstOf (mB gSortT (mCons (mVar 0) mNil))) 1 mYes (m2 gAdd (m2 gAdd (mCallN 1 g_law_path_text (mCons (mVar 1) mNil)) (mC (.str " "))) (mB gStrI (mCons (m2 gDGet (mVar 0) (mVar 1)) mNil))))))
def g_law_state_text : List D → Res D := fun ds => outR (m_law_state_text (startE 2 ds))
theorem ok_law_state_text (G : Gl ca K w mg) (U : FunAs K mg "_law_state_text" "_law_state_text" s_law_state_text ["_law_state_here"]) (F_law_path_text : FnD T ca P w K mg base 1 "_law_path_text" 1 g_law_path_text) : FnD T ca P w K mg base 2 "_law_state_text" 1 g_law_state_text := fn_as U rfl sc_law_state_text fun f cdv A outer s H E hr => by
  have hu := hu_at hr
  have tk : L2N.Takes (cxOf (L2N.CX P w) P w K mg base n_law_state_text "_law_state_text" (defScope s_law_state_text) f cdv A outer s H E) (fun c d _ H => E c d H) := L2N.takes_of rfl rfl rfl rfl
  unfold m_law_state_text
  exact (iss_one (is_ret (ie_join ie_str (ie_comp (j := 1) sc_law_state_text.nd (ii_list (ie_callB (cr_sortT rfl hu) imp_sortT (by decide +kernel) G.b_sorted (ia_cons (ie_var (i := 0)) ia_nil))) (by show blkC n_law_state_text (defScope s_law_state_text) _ _ = true; decide +kernel) (fun _ _ _ _ _ => pg_name sc_law_state_text.nd rfl (Or.inl rfl) (.inr rfl)) (fun _ _ _ _ _ => its_nil) (fun _ _ _ _ _ => (ie_op op_addI imp_add (ie_op op_addI imp_add (ie_call F_law_path_text hr (by decide) tk0 (ia_cons (ie_var (i := 1)) ia_nil)) ie_str) (ie_callTy call_str_int imp_strI (by decide +kernel) G.b_str (ia_cons (ie_dget hu (ie_var (i := 0)) (ie_var (i := 1))) ia_nil))))))))
abbrev s_law_term_text : Stmt := top 51
abbrev n_law_term_text : List Str := ["_law_term_here", "_law_row", "_law_one"]
theorem sc_law_term_text : FnScope n_law_term_text ["_law_term_here"] (defScope s_law_term_text) := ⟨rfl, rfl, rfl, by decide +kernel, rfl, by decide +kernel, by decide +kernel⟩
def m_law_term_text (g_rec : List D → Res D) : Sv := (mSeq (sIf (mT (m2 gEq (m2 gIx (mVar 0) (mC (.int 0))) (mC (.str "num")))) (sRet (mB gStrI (mCons (m2 gIx (mVar 0) (mC (.int 1))) mNil))) mSkip)
    (mSeq (sIf (mT (m1 (gIsi "str") (m2 gIx (mVar 0) (mC (.int 1))))) (sRet (m2 gAdd (mC (.str "look ")) (m2 gIx (mVar 0) (mC (.int 1))))) mSkip)
    (mSeq (sIf (mT (m2 gEq (mB gLen (mCons (mVar 0) mNil)) (mC (.int 2)))) (sRet (m2 gAdd (m2 gAdd (m2 gIx (mVar 0) (mC (.int 0))) (mC (.str " "))) (mCallN 1 g_law_path_text (mCons (m2 gIx (mVar 0) (mC (.int 1))) mNil)))) mSkip)
    (mSeq (sAsg 1 (mComp (mItems tupOf (mSl (mVar 0) (some (mC (.int 1))) none)) 2 mYes (mCallN 1 g_rec (mCons (mVar 2) mNil))))
    (mSeq (sIf (mT (m2 gEq (mB gLen (mCons (mVar 0) mNil)) (mC (.int 4)))) (sRet (m2 gAdd (m2 gAdd (m2 gAdd (m2 gAdd (m2 gAdd (m2 gAdd (mC (.str "(when ")) (m2 gIx (mVar 1) (mC (.int 0)))) (mC (.str " then "))) (m2 gIx (mVar 1) (mC (.int 1)))) (mC (.str " else "))) (m2 gIx (mVar 1) (mC (.int 2)))) (mC (.str ")")))) mSkip)
    (sRet (m2 gAdd (m2 gAdd (m2 gAdd (m2 gAdd (m2 gAdd (m2 gAdd (mC (.str "(")) (m2 gIx (mVar 1) (mC (.int 0)))) (mC (.str " "))) (m2 gIx (mVar 0) (mC (.int 0)))) (mC (.str " "))) (m2 gIx (mVar 1) (mC (.int 1)))) (mC (.str ")")))))))))
def g_law_term_text : Nat → List D → Res D
  | 0 => fun _ => .stuck
  | n + 1 => fun ds => outR (m_law_term_text (g_law_term_text n) (startE 3 ds))
theorem ok_law_term_text (G : Gl ca K w mg) (U : FunAs K mg "_law_term_text" "_law_term_text" s_law_term_text ["_law_term_here"]) (F_law_path_text : FnD T ca P w K mg base 1 "_law_path_text" 1 g_law_path_text) : ∀ n : Nat, FnD T ca P w K mg base (1 + n) "_law_term_text" 1 (g_law_term_text n)
  | 0 => fnD_stuck U rfl
  | n + 1 => by
    have F_law_term_text := ok_law_term_text G U F_law_path_text n
    exact fn_as U rfl sc_law_term_text fun f cdv A outer s H E hr => by
      have hr : Room (1 + n) (A.deeper (envOfC "_law_term_text" (defScope s_law_term_text) s.heap.objs.size f cdv)) := hr
      have hu := hu_at hr
      have tk : L2N.Takes (cxOf (L2N.CX P w) P w K mg base n_law_term_text "_law_term_text" (defScope s_law_term_text) f cdv A outer s H E) (fun c d _ H => E c d H) := L2N.takes_of rfl rfl rfl rfl
      unfold m_law_term_text
      exact (iss_cons (is_if (it_cmp (op_eqP hu) imp_eq (ie_ix ix_seq imp_ix (ie_var (i := 0)) ie_int) ie_str) (iss_one (is_ret (ie_callTy call_str_int imp_strI (by decide +kernel) G.b_str (ia_cons (ie_ix ix_seq imp_ix (ie_var (i := 0)) ie_int) ia_nil)))) iss_nil)
        (iss_cons (is_if (it_val (ie_isi (by decide +kernel) (ie_ix ix_seq imp_ix (ie_var (i := 0)) ie_int) G.b_str G.b_isinstance)) (iss_one (is_ret (ie_op op_addI imp_add ie_str (ie_ix ix_seq imp_ix (ie_var (i := 0)) ie_int)))) iss_nil)
        (iss_cons (is_if (it_cmp (op_eqP hu) imp_eq (ie_callB call_lenG imp_len (by decide +kernel) G.b_len (ia_cons (ie_var (i := 0)) ia_nil)) ie_int) (iss_one (is_ret (ie_op op_addI imp_add (ie_op op_addI imp_add (ie_ix ix_seq imp_ix (ie_var (i := 0)) ie_int) ie_str) (ie_call F_law_path_text hr (by omega) tk (ia_cons (ie_ix ix_seq imp_ix (ie_var (i := 0)) ie_int) ia_nil))))) iss_nil)
        (iss_cons (is_setLc (i := 1) (j := 2) sc_law_term_text.nd (ii_tup (ie_sl (ie_var (i := 0)) (io_some ie_int) io_no)) (by show blkC n_law_term_text (defScope s_law_term_text) _ _ = true; decide +kernel) (fun _ _ _ _ _ => pg_name sc_law_term_text.nd rfl (Or.inl rfl) (.inr rfl)) (fun _ _ _ _ _ => its_nil) (fun _ _ _ _ _ => (ie_call F_law_term_text hr (by omega) tk0 (ia_cons (ie_var (i := 2)) ia_nil))))
        (iss_cons (is_if (it_cmp (op_eqP hu) imp_eq (ie_callB call_lenG imp_len (by decide +kernel) G.b_len (ia_cons (ie_var (i := 0)) ia_nil)) ie_int) (iss_one (is_ret (ie_op op_addI imp_add (ie_op op_addI imp_add (ie_op op_addI imp_add (ie_op op_addI imp_add (ie_op op_addI imp_add (ie_op op_addI imp_add ie_str (ie_ix ix_seq imp_ix (ie_var (i := 1)) ie_int)) ie_str) (ie_ix ix_seq imp_ix (ie_var (i := 1)) ie_int)) ie_str) (ie_ix ix_seq imp_ix (ie_var (i := 1)) ie_int)) ie_str))) iss_nil)
        (iss_one (is_ret (ie_op op_addI imp_add (ie_op op_addI imp_add (ie_op op_addI imp_add (ie_op op_addI imp_add (ie_op op_addI imp_add (ie_op op_addI imp_add ie_str (ie_ix ix_seq imp_ix (ie_var (i := 1)) ie_int)) ie_str) (ie_ix ix_seq imp_ix (ie_var (i := 0)) ie_int)) ie_str) (ie_ix ix_seq imp_ix (ie_var (i := 1)) ie_int)) ie_str))))))))
end
end K70
namespace K70
open PySem PySem.Spec PyProof.Rows L2 IL
/-! ### class Reading -/
abbrev s_rinit : Stmt := (clsBody (top 38)).getD 0 (.Pass ⟨0, 0, 0, 0⟩)
abbrev s_rnext : Stmt := (clsBody (top 38)).getD 1 (.Pass ⟨0, 0, 0, 0⟩)
abbrev s_rtake : Stmt := (clsBody (top 38)).getD 2 (.Pass ⟨0, 0, 0, 0⟩)
abbrev s_rterm : Stmt := (clsBody (top 38)).getD 3 (.Pass ⟨0, 0, 0, 0⟩)
abbrev s_rinner : Stmt := (clsBody (top 38)).getD 4 (.Pass ⟨0, 0, 0, 0⟩)
abbrev n_rinit : List Str := ["self", "text"]
abbrev n_rnext : List Str := ["self"]
abbrev n_rtake : List Str := ["self", "due"]
abbrev n_rterm : List Str := ["self", "deep", "word", "found"]
abbrev n_rinner : List Str := ["self", "deep", "one", "other", "word"]
theorem sc_rinit : FnScope n_rinit ["self", "text"] (defScope s_rinit) := ⟨rfl, rfl, rfl, by decide +kernel, rfl, by decide +kernel, by decide +kernel⟩
theorem sc_rnext : FnScope n_rnext ["self"] (defScope s_rnext) := ⟨rfl, rfl, rfl, by decide +kernel, rfl, by decide +kernel, by decide +kernel⟩
theorem sc_rtake : FnScope n_rtake ["self", "due"] (defScope s_rtake) := ⟨rfl, rfl, rfl, by decide +kernel, rfl, by decide +kernel, by decide +kernel⟩
theorem sc_rterm : FnScope n_rterm ["self", "deep"] (defScope s_rterm) := ⟨rfl, rfl, rfl, by decide +kernel, rfl, by decide +kernel, by decide +kernel⟩
theorem sc_rinner : FnScope n_rinner ["self", "deep"] (defScope s_rinner) := ⟨rfl, rfl, rfl, by decide +kernel, rfl, by decide +kernel, by decide +kernel⟩
section
variable {T : Gam} {ca : XC → Addr} {P : Program} {w : World} {K : PySem.W.Frag} {mg : Str → Option Value} {base : Heap} {C : Addr}
theorem ok_rinit (L : RdC K C) {f : Addr} {fd : FuncData} (F : L2.Fun K "__init__" "Reading.__init__" s_rinit f fd) : FnOk P w K mg base (L2N.CX P w) 1 f fd ["self", "text"] (spRd C) := by
  obtain ⟨oc, od, kV, doc, pm, an, cdv, ct, osl, rfl, lk, hcd⟩ := F.ex
  refine fn_ofT lk hcd sc_rinit (by decide +kernel) (by decide) (fun vs H Q E ⟨_, _, _, e, _⟩ => by rw [e] <;> rfl) fun A outer s H vs Q E hr ⟨a, x, dx, ev, ha, hx, q⟩ => ?_
  subst ev
  refine ⟨_, psst_cons (pst_fld (pe_var (i := 0) (by rfl) (.inl (by rfl))) (pet_split (CwR.pet_replT (CwR.pet_replC (pe_var (i := 1) (by rfl) (.inl (by rfl))))) pe_str) (by rfl))
    (CwR.psst_one (PST.of (ps_fld (pe_var (i := 0) (by rfl) (.inl (by rfl))) pe_int (by rfl)))), ?_⟩
  have l1 := TK.replace_len x "(" "( "
  have l2 := TK.replace_len (Txt.replace x "(" "( ") ")" " )"
  have z1 : ("( " : Str).length = 2 := by decide
  have z2 : (" )" : Str).length = 2 := by decide
  rw [z1] at l1
  rw [z2] at l2
  have sl : (1000000 : Nat) < sizeLine := by decide
  refine ⟨_, rfl, x, rfl, (by rw [z1]; omega), _, rfl, (by rw [z2]; omega), ⟨_, rfl⟩, _, _, rfl, rfl, (by decide), (by omega), fun wl hwl => ?_⟩
  have na : a ≠ wl := ne_of_none ha hwl
  refine ⟨_, rfl, a, C, dx, [], rfl, (upd_ne na).trans ha, L.cls, L.noW, by decide, ?_⟩
  exact ⟨_, rfl, a, C, dx, _, rfl, upd_same, L.cls, L.noS, (by show 1 < 1000; decide), q wl hwl⟩
def m_rnext (ws : List Str) : SvR := uSeq (uExpr (rCall1 g_need_text (rOp2 gLt (fun _ i => .ok (.int i, i)) (rB1 gLen (fun _ i => .ok (.list (ws.map .str), i))))))
  (uSeq (uSpot (rOp2 gAdd (fun _ i => .ok (.int i, i)) (r0 (mC (.int 1)))))
  (uRet (rOp2 gIx (fun _ i => .ok (.list (ws.map .str), i)) (rOp2 gSub (fun _ i => .ok (.int i, i)) (r0 (mC (.int 1)))))))
def g_rnext : List Str → List D → Nat → Res (D × Nat) := fun ws ds i => outRR (m_rnext ws (startR 1 ds) i)
theorem ok_rnext (G : Gl ca K w mg) (L : RdC K C) (U : FunMt K C "next_word" "Reading.next_word" s_rnext ["self"]) (F_need_text : FnD T ca P w K mg base 1 "need_text" 1 g_need_text) : FnR1 T ca P w K mg base 2 C "next_word" 1 g_rnext := fnR_of U rfl sc_rnext fun ws f cdv A outer s H E hr => by
  have tk : L2N.Takes (cxOf (L2N.CX P w) P w K mg base n_rnext "Reading.next_word" (defScope s_rnext) f cdv A outer s H E) (fun c d _ H => E c d H) := L2N.takes_of rfl rfl rfl rfl
  unfold m_rnext
  exact irs_cons (irs_expr (ir_call1 F_need_text hr (by decide) tk (ir_cmp2 op_lt imp_lt (ir_spot L) (ir_callB1 call_lenG imp_len (by decide +kernel) G.b_len (ir_words L)))))
    (irs_cons (irs_spot L (ir_op2 op_addI imp_add (ir_spot L) (ir_ie ie_int)))
    (irs_one (irs_ret (ir_ix2 ix_seq imp_ix (ir_words L) (ir_op2 op_sub imp_sub (ir_spot L) (ir_ie ie_int))))))
def m_rtake (ws : List Str) : SvR := uExpr (rCall1 g_need_text (rOp gEq (fun _ i => g_rnext ws [] i) (mVar 1)))
def g_rtake : List Str → List D → Nat → Res (D × Nat) := fun ws ds i => outRR (m_rtake ws (startR 2 ds) i)
theorem ok_rtake (L : RdC K C) (U : FunMt K C "take" "Reading.take" s_rtake ["self", "due"]) (F_need_text : FnD T ca P w K mg base 1 "need_text" 1 g_need_text) (Fn : FnR1 T ca P w K mg base 2 C "next_word" 1 g_rnext) : FnR1 T ca P w K mg base 3 C "take" 2 g_rtake := fnR_of U rfl sc_rtake fun ws f cdv A outer s H E hr => by
  have hu := hu_at hr
  have tk : L2N.Takes (cxOf (L2N.CX P w) P w K mg base n_rtake "Reading.take" (defScope s_rtake) f cdv A outer s H E) (fun c d _ H => E c d H) := L2N.takes_of rfl rfl rfl rfl
  unfold m_rtake
  exact irs_one (irs_expr (ir_call1 F_need_text hr (by decide) tk (ir_cmp (op_eqP hu) imp_eq (ir_meth0 L Fn hr (by decide) tk) (ie_var (i := 1)))))
def deep1 : IL.Env → Res (List D) := mCons (m2 gAdd (mVar 1) (mC (.int 1))) mNil
def m_rinner (g_term : List Str → List D → Nat → Res (D × Nat)) (ws : List Str) : SvR :=
  uSeq (uIfR (rOp2 gEq (rSl (fun _ i => .ok (.list (ws.map .str), i)) (fun _ i => .ok (.int i, i)) (rOp2 gAdd (fun _ i => .ok (.int i, i)) (r0 (mC (.int 1))))) (r0 (mB gLst (mCons (mC (.str "when")) mNil))))
    (uSeq (uExpr (rMeth g_rtake ws (mCons (mC (.str "when")) mNil)))
    (uSeq (uAsg 2 (rMeth g_term ws deep1))
    (uSeq (uExpr (rMeth g_rtake ws (mCons (mC (.str "then")) mNil)))
    (uSeq (uAsg 3 (rMeth g_term ws deep1))
    (uSeq (uExpr (rMeth g_rtake ws (mCons (mC (.str "else")) mNil)))
    (uRet (rTup (raCons (mC (.str "when")) (raCons (mVar 2) (raCons (mVar 3) (raOne (rMeth g_term ws deep1)))))))))))) uSkip)
  (uSeq (uAsg 2 (rMeth g_term ws deep1))
  (uSeq (uAsg 4 (fun _ i => g_rnext ws [] i))
  (uSeq (uExpr (r0 (mCallN 1 g_need_text (mCons (m1 (gInT twos) (mVar 4)) mNil))))
  (uRet (rTup (raCons (mVar 4) (raCons (mVar 2) (raOne (rMeth g_term ws deep1)))))))))
def g_rinner (g_term : List Str → List D → Nat → Res (D × Nat)) : List Str → List D → Nat → Res (D × Nat) := fun ws ds i => outRR (m_rinner g_term ws (startR 5 ds) i)
def m_rterm (g_inner : List Str → List D → Nat → Res (D × Nat)) (ws : List Str) : SvR :=
  uSeq (uExpr (r0 (mCallN 1 g_need_text (mCons (m2 gLt (mVar 1) (mC (.int 8))) mNil))))
  (uSeq (uAsg 2 (fun _ i => g_rnext ws [] i))
  (uSeq (uIf (mT (m1 (gInT reads) (mVar 2))) (uRet (rTup (raCons (mVar 2) (raOne (rCall1 g_path_in (fun _ i => g_rnext ws [] i)))))) uSkip)
  (uSeq (uIf (mT (m2 gEq (mVar 2) (mC (.str "look")))) (uRet (rTup (raCons (mVar 2) (raOne (fun _ i => g_rnext ws [] i))))) uSkip)
  (uSeq (uIf (mT (m2 gNe (mVar 2) (mC (.str "(")))) (uRet (rTup (raCons (mC (.str "num")) (raOne (r0 (mCallN 1 g_number_in (mCons (mVar 2) mNil))))))) uSkip)
  (uSeq (uAsg 3 (rMeth g_inner ws (mCons (mVar 1) mNil)))
  (uSeq (uExpr (rMeth g_rtake ws (mCons (mC (.str ")")) mNil)))
  (uRet (r0 (mVar 3)))))))))
def g_rterm : Nat → List Str → List D → Nat → Res (D × Nat)
  | 0 => fun _ _ _ => .stuck
  | n + 1 => fun ws ds i => outRR (m_rterm (g_rinner (g_rterm n)) ws (startR 4 ds) i)
theorem len1 {ma : Ev} : ∀ env ds, mCons ma mNil env = .ok ds → ds.length + 1 = 2 := fun env ds h => by
  unfold mCons mNil at h
  cases hm : ma env with
  | ok d => rw [hm] at h; cases h; rfl
  | exc c => rw [hm] at h; cases h
  | stuck => rw [hm] at h; cases h
theorem ok_rinner (G : Gl ca K w mg) (L : RdC K C) (U : FunMt K C "inner" "Reading.inner" s_rinner ["self", "deep"]) (F_need_text : FnD T ca P w K mg base 1 "need_text" 1 g_need_text) (Fn : FnR1 T ca P w K mg base 2 C "next_word" 1 g_rnext) (Ft : FnR1 T ca P w K mg base 3 C "take" 2 g_rtake)
    {k : Nat} {g_term : List Str → List D → Nat → Res (D × Nat)} (hk : 3 ≤ k) (FT : FnR1 T ca P w K mg base k C "term" 2 g_term) : FnR1 T ca P w K mg base (k + 1) C "inner" 2 (g_rinner g_term) := fnR_of U rfl sc_rinner fun ws f cdv A outer s H E hr => by
  have hu := hu_at hr
  have tk : L2N.Takes (cxOf (L2N.CX P w) P w K mg base n_rinner "Reading.inner" (defScope s_rinner) f cdv A outer s H E) (fun c d _ H => E c d H) := L2N.takes_of rfl rfl rfl rfl
  unfold m_rinner deep1
  exact irs_cons (irs_ifC (op_eqP hu) imp_eq (ir_sl (ir_words L) (ir_spot L) (ir_op2 op_addI imp_add (ir_spot L) (ir_ie ie_int))) (ir_ie (ie_lst (ia_cons ie_str ia_nil)))
    (irs_cons (irs_expr (ir_meth L Ft hr hk tk (ia_cons ie_str ia_nil) len1))
    (irs_cons (irs_asg sc_rinner.nd (ir_meth L FT hr (Nat.le_refl _) tk (ia_cons (ie_op op_addI imp_add (ie_var (i := 1)) ie_int) ia_nil) len1))
    (irs_cons (irs_expr (ir_meth L Ft hr hk tk (ia_cons ie_str ia_nil) len1))
    (irs_cons (irs_asg sc_rinner.nd (ir_meth L FT hr (Nat.le_refl _) tk (ia_cons (ie_op op_addI imp_add (ie_var (i := 1)) ie_int) ia_nil) len1))
    (irs_cons (irs_expr (ir_meth L Ft hr hk tk (ia_cons ie_str ia_nil) len1))
    (irs_one (irs_ret (ir_tup (ira_cons ie_str (ira_cons (ie_var (i := 2)) (ira_cons (ie_var (i := 3)) (ira_one (ir_meth L FT hr (Nat.le_refl _) tk (ia_cons (ie_op op_addI imp_add (ie_var (i := 1)) ie_int) ia_nil) len1)))))))))))))
    irs_nil)
    (irs_cons (irs_asg sc_rinner.nd (ir_meth L FT hr (Nat.le_refl _) tk (ia_cons (ie_op op_addI imp_add (ie_var (i := 1)) ie_int) ia_nil) len1))
    (irs_cons (irs_asg sc_rinner.nd (ir_meth0 L Fn hr (by omega) tk))
    (irs_cons (irs_expr (ir_ie (ie_call F_need_text hr (by omega) tk (ia_cons (ie_inT G.s_TWO (ie_var (i := 4))) ia_nil))))
    (irs_one (irs_ret (ir_tup (ira_cons (ie_var (i := 4)) (ira_cons (ie_var (i := 2)) (ira_one (ir_meth L FT hr (Nat.le_refl _) tk (ia_cons (ie_op op_addI imp_add (ie_var (i := 1)) ie_int) ia_nil) len1))))))))))
theorem ok_rterm (G : Gl ca K w mg) (L : RdC K C) (U : FunMt K C "term" "Reading.term" s_rterm ["self", "deep"]) (Ui : FunMt K C "inner" "Reading.inner" s_rinner ["self", "deep"]) (F_need_text : FnD T ca P w K mg base 1 "need_text" 1 g_need_text) (F_path_in : FnD T ca P w K mg base 1 "path_in" 1 g_path_in) (F_number_in : FnD T ca P w K mg base 2 "number_in" 1 g_number_in)
    (Fn : FnR1 T ca P w K mg base 2 C "next_word" 1 g_rnext) (Ft : FnR1 T ca P w K mg base 3 C "take" 2 g_rtake) : ∀ n : Nat, FnR1 T ca P w K mg base (3 + 2 * n) C "term" 2 (g_rterm n)
  | 0 => fnR_stuck U rfl
  | n + 1 => by
    have FI := ok_rinner G L Ui F_need_text Fn Ft (by omega) (ok_rterm G L U Ui F_need_text F_path_in F_number_in Fn Ft n)
    refine FnR1.mono (j := 3 + 2 * n + 1 + 1) (fnR_of U rfl sc_rterm fun ws f cdv A outer s H E hr => ?_) (by omega)
    have hu := hu_at hr
    have tk : L2N.Takes (cxOf (L2N.CX P w) P w K mg base n_rterm "Reading.term" (defScope s_rterm) f cdv A outer s H E) (fun c d _ H => E c d H) := L2N.takes_of rfl rfl rfl rfl
    unfold m_rterm
    exact irs_cons (irs_expr (ir_ie (ie_call F_need_text hr (by omega) tk (ia_cons (ie_cmp op_lt imp_lt (ie_var (i := 1)) (ie_gi G.g_MOST_WITHIN)) ia_nil))))
      (irs_cons (irs_asg sc_rterm.nd (ir_meth0 L Fn hr (by omega) tk))
      (irs_cons (irs_if (it_inT G.s_READING (ie_var (i := 2))) (irs_one (irs_ret (ir_tup (ira_cons (ie_var (i := 2)) (ira_one (ir_call1 F_path_in hr (by omega) tk (ir_meth0 L Fn hr (by omega) tk))))))) irs_nil)
      (irs_cons (irs_if (it_cmp (op_eqP hu) imp_eq (ie_var (i := 2)) ie_str) (irs_one (irs_ret (ir_tup (ira_cons (ie_var (i := 2)) (ira_one (ir_meth0 L Fn hr (by omega) tk)))))) irs_nil)
      (irs_cons (irs_if (it_cmp (op_neP hu) imp_ne (ie_var (i := 2)) ie_str) (irs_one (irs_ret (ir_tup (ira_cons ie_str (ira_one (ir_ie (ie_call F_number_in hr (by omega) tk (ia_cons (ie_var (i := 2)) ia_nil)))))))) irs_nil)
      (irs_cons (irs_asg sc_rterm.nd (ir_meth L FI hr (by omega) tk (ia_cons (ie_var (i := 1)) ia_nil) len1))
      (irs_cons (irs_expr (ir_meth L Ft hr (by omega) tk (ia_cons ie_str ia_nil) len1))
      (irs_one (irs_ret (ir_ie (ie_var (i := 3)))))))))))
end
end K70
namespace K70
open PySem PySem.Spec PyProof.Rows L2 IL
abbrev s_told : Stmt := top 44
abbrev n_told : List Str := ["_law_deed", "_law_e"]
theorem sc_told : FnScope n_told ["_law_deed"] (defScope s_told) := ⟨rfl, rfl, rfl, by decide +kernel, rfl, by decide +kernel, by decide +kernel⟩
abbrev s_word : Stmt := top 43
abbrev nWord : List Str := ["_law_e", "_law_flags", "_law_words", "_law_flag"]
theorem scWord : FnScope nWord ["_law_e"] (defScope s_word) := ⟨rfl, rfl, rfl, by decide +kernel, rfl, by decide +kernel, by decide +kernel⟩
def seven : List XC := [.deed, .look, .number, .path, .state, .storm, .text]
def pos7 : XC → Nat
  | .deed => 0
  | .look => 1
  | .number => 2
  | .path => 3
  | .state => 4
  | .storm => 5
  | .text => 6
abbrev s_term_in : Stmt := top 39
abbrev n_term_in : List Str := ["text", "found"]
theorem sc_term_in : FnScope n_term_in ["text"] (defScope s_term_in) := ⟨rfl, rfl, rfl, by decide +kernel, rfl, by decide +kernel, by decide +kernel⟩
def m_term_in : Sv := mSeq (sExpr (mCallN 1 g_need_text (mCons (m1 (gIsi "str") (mVar 0)) mNil))) (mSeq (sAsg 1 (mRead (g_rterm 9) (mVar 0)))
  (sTryR .look .text (sExpr (mCallN 1 g_need_term (mCons (mVar 1) mNil))) (mSeq (sExpr (mCallN 1 g_need_text (mCons (m2 gEq (mCallN 1 (g_text_of 12) (mCons (mVar 1) mNil)) (mVar 0)) mNil))) (sRet (mVar 1)))))
def g_term_in : List D → Res D := fun ds => outR (m_term_in (startE 2 ds))
section
variable {T : Gam} {ca : XC → Addr} {P : Program} {w : World} {K : PySem.W.Frag} {mg : Str → Option Value} {base : Heap}
theorem ok_term_in (G : Gl ca K w mg) (U : FunAs K mg "term_in" "term_in" s_term_in ["text"]) {C : Addr} (L : RdC K C) (hmC : mg "Reading" = some (.ref C)) {fi : Addr} {fdi : FuncData} (MI : Mk K C fi) (Fi : FnOk P w K mg base (L2N.CX P w) 1 fi fdi ["self", "text"] (spRd C)) (hbi : L2.Binds K fdi ["self", "text"] [])
    (FT : FnR1 T ca P w K mg base 21 C "term" 2 (g_rterm 9)) (F_need_text : FnD T ca P w K mg base 1 "need_text" 1 g_need_text) (F_need_term : FnD T ca P w K mg base 15 "need_term" 1 g_need_term) (F_text_of : FnD T ca P w K mg base 13 "text_of" 1 (g_text_of 12)) : FnZ T ca P w K mg base 22 "term_in" 1 g_term_in := fn_asZ U rfl sc_term_in fun f cdv A outer s H E hr => by
  have hu := hu_at hr
  have tk3 : Takes3 (cxOf (CX3 P w) P w K mg base n_term_in "term_in" (defScope s_term_in) f cdv A outer s H E) (fun c d _ H => E c d H) := takes3_of rfl rfl rfl rfl
  have tk := tk3.takes
  unfold m_term_in
  exact iss_cons (is_expr (ie_call F_need_text hr (by decide) tk (ia_cons (ie_isi (by decide +kernel) (ie_var (i := 0)) G.b_str G.b_isinstance) ia_nil)))
    (iss_cons (is_asg (i := 1) sc_term_in.nd (ie_read L MI Fi hbi FT hr (by decide) (by decide) hmC tk (ie_var (i := 0))))
    (iss_one (is_tryR rfl rfl (fun hd => L2H.passesAt_of rfl hd) tk3 ⟨rfl, by decide, .inl G.r_BadLook.g⟩ G.x_look G.r_BadText rfl (by decide)
      (fun W pn xe tk' => iss_one (is_expr (ie_call F_need_term hr (by decide) tk' (ia_cons (ie_var (i := 1)) ia_nil))))
      (iss_cons (is_expr (ie_call F_need_text hr (by decide) tk (ia_cons (ie_cmp (op_eqP hu) imp_eq (ie_call F_text_of hr (by decide) tk (ia_cons (ie_var (i := 1)) ia_nil)) (ie_var (i := 0))) ia_nil)))
        (iss_one (is_ret (ie_var (i := 1))))))))
theorem ok_word {f : Addr} {fd : FuncData} (F : L2.Fun K "_law_word" "_law_word" s_word f fd) (X : ExcAll seven ca K mg) : FnWG seven T ca nmX P w K mg base 1 f fd ["_law_e"] := by
  refine run_wordG F scWord rfl fun CX cdv A outer s H Q E p tl c S0 hot hz1 hz2 hf hcs lv hq => ?_
  have hpa : ∀ y ∈ p :: tl, y ∈ (cxG CX P w K mg base nWord "_law_word" (defScope s_word) f cdv A outer s H E p tl).pn := fun y hy => hy
  have hp := hpa p List.mem_cons_self
  have hot' : HotG (cxG CX P w K mg base nWord "_law_word" (defScope s_word) f cdv A outer s H E p tl).A p tl := ⟨hot.hd, hot.ch⟩
  have isE : ∀ (d : XC) (q q1 q2 pos : Pos), d ∈ seven → L2.Gl (cxG CX P w K mg base nWord "_law_word" (defScope s_word) f cdv A outer s H E p tl) (nmX d) → 
      PE (cxG CX P w K mg base nWord "_law_word" (defScope s_word) f cdv A outer s H E p tl) (.Call (.Name "isinstance" q) [.Name "_law_e" q1, .Name (nmX d) q2] [] pos) fun σ H Q => σ[0]? = some (some (.ref p.1)) ∧ Q (.bl (decide (c = d))) H := fun d q q1 q2 pos hd hg =>
    pe_isH (i := 0) hp (X.C c hcs) ⟨hz1, hz2⟩ hf rfl (.inl rfl) (pe_glob (v := .ref (ca d)) hg (X.g d hd) rfl (by cases d <;> decide)) (fun u r => r) (X.kit c hcs d hd) rfl X.isi
  have isV : ∀ (q q1 q2 pos : Pos), PE (cxG CX P w K mg base nWord "_law_word" (defScope s_word) f cdv A outer s H E p tl) (.Call (.Name "isinstance" q) [.Name "_law_e" q1, .Name "ValueError" q2] [] pos) fun σ H Q => σ[0]? = some (some (.ref p.1)) ∧ Q (.bl true) H := fun q q1 q2 pos =>
    pe_isH (i := 0) hp (X.C c hcs) ⟨hz1, hz2⟩ hf rfl (.inl rfl) (pe_bltn (v := .ty "ValueError") rfl X.ve (by decide +kernel) rfl) (fun u r => r) (X.kitV c hcs) rfl X.isi
  refine ⟨_, pss_cons (ps_set (i := 1) scWord.nd rfl (Or.inl rfl) (pe_lst (pa_cons (isE .deed _ _ _ _ (by decide) rfl) (pa_cons (isE .look _ _ _ _ (by decide) rfl) (pa_cons (isE .number _ _ _ _ (by decide) rfl) (pa_cons (isE .path _ _ _ _ (by decide) rfl) pa_nil))))))
    (pss_cons (ps_set (i := 1) scWord.nd rfl (Or.inl rfl) (pe_op op_catL (pe_var (i := 1) rfl (.inl rfl)) (pe_lst (pa_cons (isE .state _ _ _ _ (by decide) rfl) (pa_cons (isE .storm _ _ _ _ (by decide) rfl) (pa_cons (isE .text _ _ _ _ (by decide) rfl) pa_nil))))))
    (pss_cons (ps_if (pw_or (pt_cmpR op_ne (pe_callB (cr_sumG ⟨p, tl, hot', hpa⟩) (by rfl) X.sm (by decide +kernel) (pa_cons (pe_lcG (own := [("_law_flag", 3)]) hpa hot' scWord.nd (pi_listG (pe_var (i := 1) rfl (.inl rfl))) (blkOk_by (by show blkC nWord (defScope s_word) _ _ = true; decide +kernel)) (fun s H C cl fp => pg_name (i := 3) scWord.nd rfl (Or.inl rfl) (.inr rfl)) (fun s H C cl fp => pts_nil) (fun s H C cl fp => pe_callTy call_int1 (by rfl) X.it (by decide +kernel) (pa_cons (pe_var (i := 3) rfl (.inl rfl)) pa_nil))) pa_nil)) pe_int (nomark _)) (pw_or1 (pt_not (pt_val (isV _ _ _ _))))).pt (pss_one (ps_ret (pe_tup (pa_cons pe_str (pa_cons pe_str pa_nil))))) pss_nil)
    (pss_cons (ps_set (i := 2) scWord.nd rfl (Or.inl rfl) (pe_lst (pa_cons pe_str (pa_cons pe_str (pa_cons pe_str (pa_cons pe_str (pa_cons pe_str (pa_cons pe_str (pa_cons pe_str pa_nil)))))))))
    (pss_one (ps_ret (pe_tup (pa_cons pe_str (pa_cons (pe_ix ix_list (pe_var (i := 2) rfl (.inl rfl)) (pe_bm PySem.F.plainAttrs_list (T := "list") (id := "list.index") (by exact PySem.F.slot_list_index) (by rfl) mt_index (pe_var (i := 1) rfl (.inl rfl)) (pa_cons pe_bl pa_nil)) (by exact fun _ _ => rfl)) pa_nil)))))))), ?_⟩
  refine ⟨rfl, rfl, rfl, rfl, (by show 4 ≤ sizeLine; decide), fun p1 i1 => ?_⟩
  refine ⟨_, rfl, rfl, rfl, rfl, (by show 3 ≤ sizeLine; decide), fun p2 i2 => ⟨p1, p2, _, _, rfl, rfl, sq_upd (.inl (.inl upd_same)) i2, .inl (.inl upd_same), (by show 7 ≤ sizeLine; decide), fun p5 h5 => ?_⟩⟩
  dsimp only [gName, tSeq, tIfS, tOr, tTest, tOp, tCB, tCons, tNil]
  refine lc_flags (K := K) (σ := [some (.ref p.1), some (.ref p5), none, none]) (i := 1) (j := 3) (a := p5) (bs := seven.map fun d => decide (c = d)) rfl (by show 3 < 4; decide) (.inl (.inl upd_same)) (by show 7 < 1000; decide) fun p6 h6 => ?_
  refine ⟨p6, seven.map fun d => if decide (c = d) = true then (1 : Int) else 0, rfl, .inl (.inl upd_same), rfl, ?_⟩
  have hs : (seven.map fun d => if decide (c = d) = true then (1 : Int) else 0).sum = 1 := by revert hcs; cases c <;> decide
  refine ⟨_, rfl, ?_⟩
  rw [if_neg (by rw [hs]; decide)]
  refine ⟨rfl, true, rfl, ?_⟩
  dsimp only
  rw [if_neg (by decide)]
  have h1 : (seven.map fun d => decide (c = d))[pos7 c]? = some true := by revert hcs; cases c <;> decide
  have h2 : ∀ m, m < pos7 c → (seven.map fun d => decide (c = d))[m]? = some false := by revert hcs; cases c <;> decide
  have h3 : (seven.map nmX)[pos7 c]? = some (nmX c) := by revert hcs; cases c <;> decide
  refine ⟨(by show 7 ≤ sizeLine; decide), fun p7 h7 => ⟨_, rfl, ?_⟩⟩
  have sq : ∀ o : HO, SqL K (upd _ p7 o) p5 ((seven.map fun d => decide (c = d)).map V.bl) := fun o => sq_upd (sq_upd (.inl (.inl upd_same)) h6) h7
  refine ⟨_, rfl, .inl ⟨rfl, _, sq _⟩, p5, _, .bl true, pos7 c, .bl true, rfl, rfl, sq _, rfl, ?_, by rw [List.getElem?_map, h1] <;> rfl, rfl, fun m z hm hz => ?_, ?_⟩
  · exact List.all_eq_true.mpr fun v hv => let ⟨b, _, e⟩ := List.mem_map.mp hv; by rw [← e] <;> rfl
  · rw [List.getElem?_map, h2 m hm] at hz
    cases hz
    rfl
  · refine ⟨p7, (seven.map nmX).map V.str, (pos7 c : Nat), .str (nmX c), rfl, rfl, .inl (.inl upd_same), ?_, ?_⟩
    · revert hcs; cases c <;> decide
    · refine ⟨(by show 2 ≤ sizeLine; decide), fun p8 h8 => hq _ _ (((((Pe.new i1).trans (.new i2)).trans (.new h5)).trans (.new h6)).trans (.new h7) |>.trans (.new h8)) ?_⟩
      refine .tup ((hide_in fun z => ?_).trans upd_same) (.cons (.str _) (.cons (.str _) .nil))
      exact (lv.le (((((Pe.new i1).trans (.new i2)).trans (.new h5)).trans (.new h6)).trans (.new h7))).no h8 z
end
end K70
namespace K70
open PySem PySem.Spec PyProof.Rows L2 IL
section
variable {T : Gam} {ca : XC → Addr} {P : Program} {w : World} {K : PySem.W.Frag} {mg : Str → Option Value} {base : Heap}
abbrev s_law : Stmt := top 52
abbrev n_law : List Str := ["_law_script", "_law_k", "_law_more", "_law_state_here", "_law_term_here", "_law_text", "_law_words", "_law_j", "_law_here", "_law_own", "_law_at", "_law_sign", "_law_bent", "_law_told_here"]
theorem sc_law : FnScope n_law ["_law_script"] (defScope s_law) := ⟨rfl, rfl, rfl, by decide +kernel, rfl, by decide +kernel, by decide +kernel⟩
def m_law : Sv := (mSeq (sFor (mRng (mCons (mB gMax2 (mCons (mC (.int 1)) (mCons (mB gMin2 (mCons (mC (.int 4)) (mCons (mB gLen (mCons (mVar 0) mNil)) mNil))) mNil))) mNil)) 1 (mSeq (sAsg 2 (mCallN 2 g_law_drawn (mCons (mCallN 2 g_law_cell (mCons (mVar 0) (mCons (mVar 1) mNil))) (mCons (mVar 1) mNil))))
    (mSeq (sPar 3 4 (mCallN 2 g_law_state (mCons (m2 gDiv (mVar 2) (mC (.int 8))) (mCons (mC (.int 10)) mNil))) (mCallN 3 (g_law_term 6) (mCons (m2 gDiv (mVar 2) (mC (.int 64))) (mCons (m2 gAdd (mC (.int 1)) (m2 gMod (mVar 2) (mC (.int 4)))) (mCons (mB gLst (mCons (mC (.str "a")) (mCons (mC (.str "look")) (mCons (mC (.str "when")) mNil)))) mNil)))))
    (mSeq (sPar 5 6 (mCallN 1 g_law_state_text (mCons (mVar 3) mNil)) (mCallN 1 (g_law_term_text 12) (mCons (mVar 4) mNil)))
    (mSeq (sIf (mOr (mT (m2 gNe (mCallN 1 g_state_text (mCons (mVar 3) mNil)) (mVar 5))) (mT (m2 gNeDT (mCallN 1 g_state_in (mCons (mVar 5) mNil)) (mVar 3)))) (sRet (mC (.bool false))) mSkip)
    (mSeq (sIf (mOr (mT (m2 gNe (mCallN 1 g_term_text (mCons (mVar 4) mNil)) (mVar 6))) (mT (m2 gNe (mCallN 1 (fun ds => okOnly (g_term_in ds)) (mCons (mVar 6) mNil)) (mVar 4)))) (sRet (mC (.bool false))) mSkip)
    (sFor (mRng (mCons (mC (.int 6)) mNil)) 7 (mSeq (sAsg 8 (mCallN 2 g_law_drawn (mCons (mVar 2) (mCons (m2 gAdd (mC (.int 30)) (mVar 7)) mNil))))
    (sFor (mItems lstOf (mB gLst (mCons (mVar 5) (mCons (mVar 6) mNil)))) 9 (mSeq (sAsg 10 (m2 gMod (mVar 8) (m2 gAdd (mB gLen (mCons (mVar 9) mNil)) (mC (.int 1)))))
    (mSeq (sAsg 11 (m2 gIx (mC (.str " .()-0a1\n")) (m2 gMod (m2 gDiv (mVar 8) (mC (.int 4096))) (mC (.int 9)))))
    (mSeq (sAsg 12 (m2 gAdd (m2 gAdd (mSl (mVar 9) none (some (mVar 10))) (m2 gIx (mB gLst (mCons (mVar 11) (mCons (mC (.str "")) (mCons (mVar 11) mNil)))) (m2 gMod (m2 gDiv (mVar 8) (mC (.int 64))) (mC (.int 3))))) (mSl (mVar 9) (some (m2 gAdd (mVar 10) (m2 gIx (mB gLst (mCons (mC (.int 0)) (mCons (mC (.int 1)) (mCons (mC (.int 1)) mNil)))) (m2 gMod (m2 gDiv (mVar 8) (mC (.int 64))) (mC (.int 3)))))) none)))
    (mSeq (sAsg 13 (mTold seven nmX (mCallN 1 g_state_in (mCons (mVar 12) mNil))))
    (mSeq (sIf (mT (m1 (gIsi "dict") (mVar 13))) (sIf (mOr (mT (m2 gNe (mCallN 1 g_law_state_text (mCons (mVar 13) mNil)) (mVar 12))) (mNot (mT (mCallN 1 g_law_is_state (mCons (mVar 13) mNil))))) (sRet (mC (.bool false))) mSkip) (sIf (mT (m2 gNe (mVar 13) (mB gTup (mCons (mC (.str "refused")) (mCons (mC (.str "BadText")) mNil))))) (sRet (mC (.bool false))) mSkip))
    (mSeq (sAsg 13 (mTold seven nmX (mCallN 1 g_term_in (mCons (mVar 12) mNil))))
    (sIf (mAnd (mT (m2 gNe (mVar 13) (mB gTup (mCons (mC (.str "refused")) (mCons (mC (.str "BadText")) mNil))))) (mT (m2 gNe (mCallN 1 (g_law_term_text 12) (mCons (mVar 13) mNil)) (mVar 12)))) (sRet (mC (.bool false))) mSkip))))))))))))))))
    (sRet (mAndV (m2 gEq (mCallN 1 g_state_text (mCons (mC (.dict [])) mNil)) (mC (.str ""))) (mAndV (m2 gEqDT (mCallN 1 g_state_in (mCons (mC (.str "")) mNil)) (mC (.dict []))) (m2 gEq (mCallN 1 (fun ds => okOnly (g_term_in ds)) (mCons (mC (.str "sum .")) mNil)) (mB gTup (mCons (mC (.str "sum")) (mCons (mB gTup mNil) mNil))))))))
def g_law : List D → Res D := fun ds => outR (m_law (startE 14 ds))
theorem ok_law (G : Gl ca K w mg) {f : Addr} {oc kV doc pm ct : Value} {od an : Option Addr} {osl : Array (Option Value)} {c P0 : Addr} (lk : K.lookup f = some ⟨oc, od, .func (PySem.W.fnOf "law" "law" (defArgs s_law) (defBody s_law) (defScope s_law) .none kV doc pm an (.ref c) ct), osl⟩) (hcd : PySem.W.codeIn K (.ref c) "law" = true)
    (DT : ToldG seven T ca nmX P w K mg base 1 "_law_told" "LookError" "_law_word" s_told n_told "_law_deed" "_law_e") (TB : LamX.TabB base mg c P0) (hin : (P0, ("law.<locals>.<lambda>" : Str)) ∈ T.tabs) (hone : ∀ p ∈ T.tabs, p.1 = P0 → p.2 = "law.<locals>.<lambda>")
    (F_law_cell : FnD T ca P w K mg base 1 "_law_cell" 2 g_law_cell) (F_law_drawn : FnD T ca P w K mg base 1 "_law_drawn" 2 g_law_drawn) (F_law_state : FnD T ca P w K mg base 3 "_law_state" 2 g_law_state) (F_law_term : FnD T ca P w K mg base 8 "_law_term" 3 (g_law_term 6)) (F_law_state_text : FnD T ca P w K mg base 2 "_law_state_text" 1 g_law_state_text) (F_law_term_text : FnD T ca P w K mg base 13 "_law_term_text" 1 (g_law_term_text 12)) (F_state_text : FnD T ca P w K mg base 5 "state_text" 1 g_state_text) (F_state_in : FnD T ca P w K mg base 6 "state_in" 1 g_state_in) (F_term_text : FnD T ca P w K mg base 16 "term_text" 1 g_term_text) (F_term_in : FnZ T ca P w K mg base 22 "term_in" 1 g_term_in) (F_law_is_state : FnD T ca P w K mg base 1 "_law_is_state" 1 g_law_is_state) :
    FnOk P w K mg base (L2N.CX P w) 25 f (PySem.W.fnOf "law" "law" (defArgs s_law) (defBody s_law) (defScope s_law) .none kV doc pm an (.ref c) ct) ["_law_script"] (SpD T ca K 1 g_law) := fn_okL lk hcd sc_law fun A outer s H E hr => by
  have hu := hu_at hr
  have tk : L2N.Takes (cxOf (L2N.CX P w) P w K mg base n_law "law" (defScope s_law) f (.ref c) A outer s H E) (fun c d _ H => E c d H) := L2N.takes_of rfl rfl rfl rfl
  unfold m_law
  exact (iss_cons (is_for (i := 1) (passes_of rfl) sc_law.nd (ii_rng1 G.b_range (ia_cons (ie_callB (call_max2 rfl) imp_max2 (by decide +kernel) G.b_max (ia_cons ie_int (ia_cons (ie_callB (call_min2 rfl) imp_min2 (by decide +kernel) G.b_min (ia_cons ie_int (ia_cons (ie_callB call_lenG imp_len (by decide +kernel) G.b_len (ia_cons (ie_var (i := 0)) ia_nil)) ia_nil))) ia_nil))) ia_nil) (h1 := (len_cons _ _ 0 len_nil))) (iss_cons (is_asg (i := 2) sc_law.nd (ie_call F_law_drawn hr (by decide) tk (ia_cons (ie_call F_law_cell hr (by decide) tk (ia_cons (ie_var (i := 0)) (ia_cons (ie_var (i := 1)) ia_nil))) (ia_cons (ie_var (i := 1)) ia_nil))))
    (iss_cons (is_par (i := 3) (j := 4) sc_law.nd (ie_call F_law_state hr (by decide) tk (ia_cons (ie_op op_fdivW imp_div (ie_var (i := 2)) ie_int) (ia_cons ie_int ia_nil))) (ie_call F_law_term hr (by decide) tk (ia_cons (ie_op op_fdivW imp_div (ie_var (i := 2)) ie_int) (ia_cons (ie_op op_addI imp_add ie_int (ie_op op_mod imp_mod (ie_var (i := 2)) ie_int)) (ia_cons (ie_lst (ia_cons ie_str (ia_cons ie_str (ia_cons ie_str ia_nil)))) ia_nil)))))
    (iss_cons (is_par (i := 5) (j := 6) sc_law.nd (ie_call F_law_state_text hr (by decide) tk (ia_cons (ie_var (i := 3)) ia_nil)) (ie_call F_law_term_text hr (by decide) tk (ia_cons (ie_var (i := 4)) ia_nil)))
    (iss_cons (is_if (IW.it (iw_or (it_cmp (op_neP hu) imp_ne (ie_call F_state_text hr (by decide) tk (ia_cons (ie_var (i := 3)) ia_nil)) (ie_var (i := 5))) (iw_or1 (it_cmp (op_neDT hu) imp_neDT (ie_call F_state_in hr (by decide) tk (ia_cons (ie_var (i := 5)) ia_nil)) (ie_var (i := 3)))))) (iss_one (is_ret ie_bl)) iss_nil)
    (iss_cons (is_if (IW.it (iw_or (it_cmp (op_neP hu) imp_ne (ie_call F_term_text hr (by decide) tk (ia_cons (ie_var (i := 4)) ia_nil)) (ie_var (i := 6))) (iw_or1 (it_cmp (op_neP hu) imp_ne (ie_callZok F_term_in hr (by decide) (ia_cons (ie_var (i := 6)) ia_nil)) (ie_var (i := 4)))))) (iss_one (is_ret ie_bl)) iss_nil)
    (iss_one (is_for (i := 7) (passes_of rfl) sc_law.nd (ii_rng1 G.b_range (ia_cons ie_int ia_nil) (h1 := (len_cons _ _ 0 len_nil))) (iss_cons (is_asg (i := 8) sc_law.nd (ie_call F_law_drawn hr (by decide) tk (ia_cons (ie_var (i := 2)) (ia_cons (ie_op op_addI imp_add ie_int (ie_var (i := 7))) ia_nil))))
    (iss_one (is_for (i := 9) (passes_of rfl) sc_law.nd (ii_list (ie_lst (ia_cons (ie_var (i := 5)) (ia_cons (ie_var (i := 6)) ia_nil)))) (iss_cons (is_asg (i := 10) sc_law.nd (ie_op op_mod imp_mod (ie_var (i := 8)) (ie_op op_addI imp_add (ie_callB call_lenG imp_len (by decide +kernel) G.b_len (ia_cons (ie_var (i := 9)) ia_nil)) ie_int)))
    (iss_cons (is_asg (i := 11) sc_law.nd (ie_ix ix_seq imp_ix ie_str (ie_op op_mod imp_mod (ie_op op_fdivW imp_div (ie_var (i := 8)) ie_int) ie_int)))
    (iss_cons (is_asg (i := 12) sc_law.nd (ie_op op_addI imp_add (ie_op op_addI imp_add (ie_sl (ie_var (i := 9)) io_no (io_some (ie_var (i := 10)))) (ie_ix ix_seq imp_ix (ie_lst (ia_cons (ie_var (i := 11)) (ia_cons ie_str (ia_cons (ie_var (i := 11)) ia_nil)))) (ie_op op_mod imp_mod (ie_op op_fdivW imp_div (ie_var (i := 8)) ie_int) ie_int))) (ie_sl (ie_var (i := 9)) (io_some (ie_op op_addI imp_add (ie_var (i := 10)) (ie_ix ix_seq imp_ix (ie_lst (ia_cons ie_int (ia_cons ie_int (ia_cons ie_int ia_nil)))) (ie_op op_mod imp_mod (ie_op op_fdivW imp_div (ie_var (i := 8)) ie_int) ie_int)))) io_no)))
    (iss_cons (is_asg (i := 13) sc_law.nd (ie_toldG (j := 22) DT TB rfl hin hone hr (by decide) (by show LamX.lamSB (defScope s_law) _ = true; decide +kernel) (by rfl) (fun _ _ _ _ _ => by rfl) (fun _ _ _ _ _ _ _ hr3 => (ie_call F_state_in hr3 (by decide) lamZ_takes (ia_cons (ie_var (i := 12)) ia_nil))) rfl))
    (iss_cons (is_if (it_val (ie_isi (by decide +kernel) (ie_var (i := 13)) G.b_dict G.b_isinstance)) (iss_one (is_if (IW.it (iw_or (it_cmp (op_neP hu) imp_ne (ie_call F_law_state_text hr (by decide) tk (ia_cons (ie_var (i := 13)) ia_nil)) (ie_var (i := 12))) (iw_or1 (it_not (it_val (ie_call F_law_is_state hr (by decide) tk (ia_cons (ie_var (i := 13)) ia_nil))))))) (iss_one (is_ret ie_bl)) iss_nil)) (iss_one (is_if (it_cmp (op_neP hu) imp_ne (ie_var (i := 13)) (ie_tup (ia_cons ie_str (ia_cons ie_str ia_nil)))) (iss_one (is_ret ie_bl)) iss_nil)))
    (iss_cons (is_asg (i := 13) sc_law.nd (ie_toldG (j := 22) DT TB rfl hin hone hr (by decide) (by show LamX.lamSB (defScope s_law) _ = true; decide +kernel) (by rfl) (fun _ _ _ _ _ => by rfl) (fun _ _ _ _ _ _ _ hr3 => (ie_callZ F_term_in hr3 (by decide) lamZ_takes3 (ia_cons (ie_var (i := 12)) ia_nil))) rfl))
    (iss_one (is_if (IW.it (iw_and (it_cmp (op_neP hu) imp_ne (ie_var (i := 13)) (ie_tup (ia_cons ie_str (ia_cons ie_str ia_nil)))) (iw_and1 (it_cmp (op_neP hu) imp_ne (ie_call F_law_term_text hr (by decide) tk (ia_cons (ie_var (i := 13)) ia_nil)) (ie_var (i := 12)))))) (iss_one (is_ret ie_bl)) iss_nil)))))))))))))))))))
    (iss_one (is_ret (ie_and (ie_cmp (op_eqP hu) imp_eq (ie_call F_state_text hr (by decide) tk (ia_cons ie_dict0 ia_nil)) ie_str) (ie_and (ie_cmp (op_eqDT hu) imp_eqDT (ie_call F_state_in hr (by decide) tk (ia_cons ie_str ia_nil)) ie_dict0) (ie_one (ie_cmp (op_eqP hu) imp_eq (ie_callZok F_term_in hr (by decide) (ia_cons ie_str ia_nil)) (ie_tup (ia_cons ie_str (ia_cons (ie_tup ia_nil) ia_nil))))))))))
end
end K70
namespace K70
open PySem IL
/-! ### plain: reading mirrors, more -/
theorem andV_f {a b : Ev} {E : IL.Env} (h : a E = .ok (.bool false)) : mAndV a b E = .ok (.bool false) := by unfold mAndV; rw [h]; rfl
theorem andV_t {a b : Ev} {E : IL.Env} (h : a E = .ok (.bool true)) : mAndV a b E = b E := by unfold mAndV; rw [h]; rfl
theorem andV_of {a b : Ev} {E : IL.Env} {x y : Bool} (h : a E = .ok (.bool x)) (h' : x = true → b E = .ok (.bool y)) : mAndV a b E = .ok (.bool (x && y)) := by
  cases x with
  | false => exact andV_f h
  | true => exact (andV_t h).trans (h' rfl)
theorem orV_of {a b : Ev} {E : IL.Env} {x y : Bool} (h : a E = .ok (.bool x)) (h' : x = false → b E = .ok (.bool y)) : mOrV a b E = .ok (.bool (x || y)) := by
  unfold mOrV
  rw [h]
  cases x with
  | true => rfl
  | false => exact h' rfl
theorem notV_of {a : Ev} {E : IL.Env} {x : Bool} (h : a E = .ok (.bool x)) : mNotV a E = .ok (.bool (!x)) := by unfold mNotV; rw [h]; rfl
theorem not_of {a : IL.Env → Res Bool} {E : IL.Env} {x : Bool} (h : a E = .ok x) : mNot a E = .ok (!x) := by unfold mNot; rw [h]; rfl
theorem or_of {a b : IL.Env → Res Bool} {E : IL.Env} {x y : Bool} (h : a E = .ok x) (h' : x = false → b E = .ok y) : mOr a b E = .ok (x || y) := by
  unfold mOr
  rw [h]
  cases x with
  | true => rfl
  | false => exact h' rfl
theorem mif_t {t : IL.Env → Res Bool} {a b : Ev} {E : IL.Env} (h : t E = .ok true) : mIf t a b E = a E := by unfold mIf; rw [h]; rfl
theorem mif_f {t : IL.Env → Res Bool} {a b : Ev} {E : IL.Env} (h : t E = .ok false) : mIf t a b E = b E := by unfold mIf; rw [h]; rfl
theorem m1_of {g : D → Option D} {a : Ev} {E : IL.Env} {d z : D} (h : a E = .ok d) (hz : g d = some z) : m1 g a E = .ok z := by
  unfold m1
  rw [h]
  show ofO (g d) = _
  rw [hz]
  rfl
theorem chain_of {g g' : D → D → Option D} {a b c : Ev} {E : IL.Env} {d e f : D} {x y : Bool} (h1 : a E = .ok d) (h2 : b E = .ok e) (h3 : g d e = some (.bool x)) (h4 : c E = .ok f) (h5 : g' e f = some (.bool y)) : mChain g g' a b c E = .ok (.bool (x && y)) := by
  unfold mChain
  rw [h1]
  dsimp only [Res.bind]
  rw [h2]
  dsimp only
  rw [h3]
  cases x with
  | false => rfl
  | true =>
    show (c E).bind (fun f => ofO (g' e f)) = _
    rw [h4]
    show ofO (g' e f) = _
    rw [h5]
    rfl
theorem compLoop_of {j : Nat} {f : Ev} {env : IL.Env} {h : D → D} : ∀ {ds : List D}, (∀ d ∈ ds, f (env.set j (some d)) = .ok (h d)) → compLoop j mYes f env ds = .ok (ds.map h)
  | [], _ => rfl
  | d :: r, hf => by
    unfold compLoop mYes
    show (noExc (f (env.set j (some d)))).bind _ = _
    rw [hf d List.mem_cons_self]
    show (compLoop j mYes f env r).bind _ = _
    rw [compLoop_of fun d hd => hf d (List.mem_cons_of_mem _ hd)]
    rfl
theorem comp_of {it : IL.Env → Res (List D)} {j : Nat} {f : Ev} {E : IL.Env} {ds : List D} {h : D → D} (hi : it E = .ok ds) (hb : big ds.length = true) (hf : ∀ d ∈ ds, f (E.set j (some d)) = .ok (h d)) : mComp it j mYes f E = .ok (.list (ds.map h)) := by
  unfold mComp
  rw [hi]
  show (if big ds.length = true then (compLoop j mYes f (E.set j none) ds).bind (fun ys => Res.ok (PyData.list ys)) else Res.stuck) = _
  rw [if_pos hb, compLoop_of (h := h) fun d hd => by rw [List.set_set]; exact hf d hd]
  rfl
theorem compD_of {k j : Nat} {f : Ev} {E : IL.Env} {es : List (D × D)} {h : D → D} (hk : E[k]? = some (some (.dict es))) (ho : isOb (.dict es) = false) (hb : big es.length = true) (hf : ∀ e ∈ es, f (E.set j (some e.1)) = .ok (h e.1)) : mCompD k j mYes f E = .ok (.list ((es.map (·.1)).map h)) := by
  unfold mCompD
  rw [hk]
  dsimp only
  rw [ho, if_neg Bool.false_ne_true, if_pos hb, compLoop_of (h := h) fun d hd => by
    obtain ⟨e, he, rfl⟩ := List.mem_map.mp hd
    rw [List.set_set]
    exact hf e he]
  rfl
theorem boolsOf_map : ∀ bs : List Bool, boolsOf (bs.map PyData.bool) = some bs
  | [] => rfl
  | b :: bs => by
    show (boolsOf (bs.map PyData.bool)).map (b :: ·) = _
    rw [boolsOf_map bs]
    rfl
theorem all_of {a : IL.Env → Res (List D)} {E : IL.Env} {bs : List Bool} (h : a E = .ok [.list (bs.map .bool)]) : mB gAll a E = .ok (.bool (bs.all id)) := mB_of h (by
  show (boolsOf (bs.map PyData.bool)).map _ = _
  rw [boolsOf_map]
  rfl)
theorem any_of {a : IL.Env → Res (List D)} {E : IL.Env} {bs : List Bool} (h : a E = .ok [.list (bs.map .bool)]) : mB gAny a E = .ok (.bool (bs.any id)) := mB_of h (by
  show (boolsOf (bs.map PyData.bool)).map _ = _
  rw [boolsOf_map]
  rfl)
theorem expr_of {m : Ev} {env : SEnv} {d : D} (h : m (hid env) = .ok d) : sExpr m env = .nx env := by unfold sExpr; rw [h] <;> rfl
theorem expr_exc {m : Ev} {env : SEnv} {c : XC} (h : m (hid env) = .exc c) : sExpr m env = .exc c := by unfold sExpr; rw [h] <;> rfl
/-- a loop that goes on while P holds, and answers False else -/
theorem loop_P {α : Type} {f : α → D} {i : Nat} {b : Sv} {I : SEnv → Prop} {P : α → Bool} : ∀ {l : List α}, (∀ x ∈ l, ∀ env, I env → (P x = true → ∃ e, b (env.set i (some (.val (f x)))) = .nx e ∧ I e) ∧ (P x = false → b (env.set i (some (.val (f x)))) = .ret (.bool false))) → ∀ env, I env →
    (l.all P = true → ∃ e, forLoop i b (l.map f) env = .nx e ∧ I e) ∧ (l.all P = false → forLoop i b (l.map f) env = .ret (.bool false))
  | [], _, env, h => ⟨fun _ => ⟨env, rfl, h⟩, fun z => nomatch z⟩
  | x :: r, st, env, h => by
    obtain ⟨h1, h2⟩ := st x List.mem_cons_self env h
    rw [List.all_cons, List.map_cons]
    cases hp : P x with
    | false => exact ⟨fun z => (nomatch z), fun _ => by unfold forLoop; rw [h2 hp]⟩
    | true =>
      obtain ⟨e, h3, h4⟩ := h1 hp
      obtain ⟨h5, h6⟩ := loop_P (l := r) (P := P) (fun d hd => st d (List.mem_cons_of_mem _ hd)) e h4
      rw [Bool.true_and]
      refine ⟨fun z => ?_, fun z => ?_⟩
      · obtain ⟨e', h7, h8⟩ := h5 z
        exact ⟨e', by unfold forLoop; rw [h3]; exact h7, h8⟩
      · unfold forLoop
        rw [h3]
        exact h6 z
/-! ### words, paths, states -/
def small : Str := "abcdefghijklmnopqrstuvwxyz"
def wordB (x : Str) : Bool := decide (1 ≤ x.length) && decide (x.length ≤ 6) && x.cps.toList.all fun c => decide (c ∈ small.cps.toList)
def pathB (p : List Str) : Bool := decide (p.length ≤ 4) && p.all wordB
abbrev Pth := List Str
abbrev Sts := List (Pth × Int)
def stE (es : Sts) : List (D × D) := es.map fun e => (pathD e.1, .int e.2)
def stD (es : Sts) : D := .dict (stE es)
def keys (es : Sts) : List Pth := es.map (·.1)
def upB (ks : List Pth) (p : Pth) : Bool := ((List.range (p.length - 1)).map fun k => decide (p.take (k + 1) ∈ ks)).any id
def oneB (ks : List Pth) (e : Pth × Int) : Bool := pathB e.1 && !(e.1.isEmpty) && decide (e.2.natAbs ≤ 1000000000) && !(upB ks e.1)
def stateB (es : Sts) : Bool := es.all (oneB (keys es))
theorem pathD_keyT (p : Pth) : keyT (pathD p) = some (p.map Sum.inr) := by
  have h : pathD p = .tuple ((p.map (Sum.inr : Str → L2.Key)).map kD) := by
    unfold pathD
    rw [List.map_map]
    rfl
  rw [h, keyT_tuple]
theorem inr_inj : ∀ {p q : Pth}, p.map (Sum.inr : Str → L2.Key) = q.map Sum.inr → p = q
  | [], [], _ => rfl
  | [], _ :: _, h => by cases h
  | _ :: _, [], h => by cases h
  | a :: p, b :: q, h => by
    rw [List.map_cons, List.map_cons] at h
    injection h with h1 h2
    cases h1
    rw [inr_inj h2]
theorem pathD_inj {p q : Pth} (h : pathD p = pathD q) : p = q := by
  have := pathD_keyT p
  rw [h, pathD_keyT] at this
  exact (inr_inj (Option.some.inj this)).symm
theorem valT_st {es : Sts} {k : Pth} : valT (stE es) (k.map Sum.inr) = ((es.find? fun e => decide (e.1 = k)).map fun e => .int e.2) := by
  unfold valT stE
  rw [List.find?_map, Option.map_map]
  have hf : (fun (e : D × D) => decide (keyT e.1 = some (k.map Sum.inr))) ∘ (fun (e : Pth × Int) => (pathD e.1, PyData.int e.2)) = fun e => decide (e.1 = k) := by
    funext e
    show decide (keyT (pathD e.1) = some (k.map Sum.inr)) = decide (e.1 = k)
    rw [pathD_keyT]
    by_cases h : e.1 = k
    · rw [h]; simp
    · rw [decide_eq_false h, decide_eq_false fun z => h (inr_inj (Option.some.inj z))]
  rw [hf]
  rfl
theorem val_mem {es : Sts} (nd : (keys es).Nodup) {p : Pth} {v : Int} (h : (p, v) ∈ es) : valT (stE es) (p.map Sum.inr) = some (.int v) := by
  rw [valT_st]
  have : es.find? (fun e => decide (e.1 = p)) = some (p, v) := by
    induction es with
    | nil => cases h
    | cons e r ih =>
      obtain ⟨n1, n2⟩ := List.nodup_cons.mp nd
      rcases List.mem_cons.mp h with rfl | h
      · exact List.find?_cons_of_pos (by simp)
      · have ne : e.1 ≠ p := fun z => n1 (by
          show e.1 ∈ keys r
          rw [z]
          exact List.mem_map.mpr ⟨_, h, rfl⟩)
        rw [List.find?_cons_of_neg (by simpa using ne)]
        exact ih n2 h
  rw [this]
  rfl
theorem val_some {es : Sts} {k : Pth} : (valT (stE es) (k.map Sum.inr)).isSome = decide (k ∈ keys es) := by
  rw [valT_st, Option.isSome_map]
  by_cases h : k ∈ keys es
  · rw [decide_eq_true h]
    obtain ⟨e, h1, h2⟩ := List.mem_map.mp h
    exact List.find?_isSome.mpr ⟨e, h1, by simpa using h2⟩
  · rw [decide_eq_false h]
    cases q : es.find? (fun e => decide (e.1 = k)) with
    | none => rfl
    | some e =>
      have h1 := List.mem_of_find?_eq_some q
      have h2 := List.find?_some q
      exact absurd (List.mem_map.mpr ⟨e, h1, of_decide_eq_true h2⟩) h
theorem st_noOb (es : Sts) : isOb (stD es) = false := by
  cases es with
  | nil => rfl
  | cons e r => cases r <;> rfl
/-! what the defs answer -/
theorem is_word_of (x : Str) (hb : big x.length = true) : g_is_word [.str x] = .ok (.bool (wordB x)) := by
  have hl : mB gLen (mCons (mVar 0) mNil) [some (.str x), none] = .ok (.int x.length) := mB_of (cons_of (var_of rfl) rfl) (if_pos hb)
  have hc : mComp (mItems strOf (mVar 0)) 1 mYes (m2 gInS (mVar 1) (mC (.str "abcdefghijklmnopqrstuvwxyz"))) [some (.str x), none] = .ok (.list ((x.cps.toList.map fun c => decide (c ∈ small.cps.toList)).map .bool)) := by
    have hi : mItems strOf (mVar 0) [some (.str x), none] = .ok (x.cps.toList.map fun c => PyData.str ⟨#[c]⟩) := rfl
    rw [comp_of (h := fun d => match d with | .str y => .bool (decide (y.cps.toList.headD 0 ∈ small.cps.toList)) | _ => .none) hi (by rw [List.length_map]; exact hb) fun d hd => ?_]
    · rw [List.map_map, List.map_map]
      rfl
    · obtain ⟨c, _, rfl⟩ := List.mem_map.mp hd
      exact m2_of (var_of rfl) rfl rfl
  have h3 : mB gAll (mCons (mComp (mItems strOf (mVar 0)) 1 mYes (m2 gInS (mVar 1) (mC (.str "abcdefghijklmnopqrstuvwxyz")))) mNil) [some (.str x), none] = .ok (.bool ((x.cps.toList.map fun c => decide (c ∈ small.cps.toList)).all id)) := all_of (cons_of hc rfl)
  show outR (m_is_word [some (.val (.str x)), none]) = _
  unfold m_is_word
  rw [ret_of (d := .bool (wordB x)) ?_]
  · rfl
  · have h := andV_of (E := [some (.str x), none]) (a := m1 (gIsi "str") (mVar 0)) (x := true) (m1_of (var_of rfl) rfl) fun _ => andV_of (chain_of (g := gLe) (g' := gLe) (x := decide (1 ≤ x.length)) (y := decide (x.length ≤ 6)) (a := mC (.int 1)) (c := mC (.int 6)) rfl hl (by
      show some (PyData.bool (decide ((1 : Int) ≤ (x.length : Int)))) = _
      congr 2
      exact decide_eq_decide.mpr (by omega)) rfl (by
      show some (PyData.bool (decide ((x.length : Int) ≤ 6))) = _
      congr 2
      exact decide_eq_decide.mpr (by omega))) fun _ => h3
    rw [Bool.true_and, List.all_map] at h
    unfold wordB
    rw [Bool.and_assoc]
    rw [Bool.and_assoc] at h
    exact h
/-- of a size that is read -/
structure BigP (p : Pth) : Prop where
  len : big p.length = true
  words : ∀ x ∈ p, big x.length = true
theorem is_path_of (p : Pth) (hb : BigP p) : g_is_path [pathD p] = .ok (.bool (pathB p)) := by
  have hl : mB gLen (mCons (mVar 0) mNil) [some (pathD p), none] = .ok (.int (p.map PyData.str).length) := mB_of (cons_of (var_of rfl) rfl) rfl
  have hc : mComp (mItems tupOf (mVar 0)) 1 mYes (mCallN 1 g_is_word (mCons (mVar 1) mNil)) [some (pathD p), none] = .ok (.list ((p.map wordB).map .bool)) := by
    have hi : mItems tupOf (mVar 0) [some (pathD p), none] = .ok (p.map .str) := rfl
    rw [comp_of (h := fun d => match d with | .str y => .bool (wordB y) | _ => .none) hi (by rw [List.length_map]; exact hb.len) fun d hd => ?_]
    · rw [List.map_map, List.map_map]
      rfl
    · obtain ⟨c, hc, rfl⟩ := List.mem_map.mp hd
      exact (call1 (var_of rfl)).trans (is_word_of c (hb.words c hc))
  have h3 : mB gAll (mCons (mComp (mItems tupOf (mVar 0)) 1 mYes (mCallN 1 g_is_word (mCons (mVar 1) mNil))) mNil) [some (pathD p), none] = .ok (.bool ((p.map wordB).all id)) := all_of (cons_of hc rfl)
  have h2 : m2 gLe (mB gLen (mCons (mVar 0) mNil)) (mC (.int 4)) [some (pathD p), none] = .ok (.bool (decide (p.length ≤ 4))) := m2_of hl rfl (by
    show some (PyData.bool (decide (((p.map PyData.str).length : Int) ≤ 4))) = _
    rw [List.length_map]
    congr 2
    exact decide_eq_decide.mpr (by omega))
  show outR (m_is_path [some (.val (pathD p)), none]) = _
  unfold m_is_path
  rw [ret_of (d := .bool (pathB p)) ?_]
  · rfl
  · have h := andV_of (E := [some (pathD p), none]) (a := m1 (gIsi "tuple") (mVar 0)) (x := true) (m1_of (var_of rfl) rfl) fun _ => andV_of h2 fun _ => h3
    rw [Bool.true_and, List.all_map] at h
    exact h
theorem is_number_of (v : Int) : g_is_number [.int v, .int 1000000000] = .ok (.bool (decide (v.natAbs ≤ 1000000000))) := by
  have h2 : m2 gLe (mB gAbs (mCons (mVar 0) mNil)) (mVar 1) [some (.int v), some (.int 1000000000)] = .ok (.bool (decide (v.natAbs ≤ 1000000000))) := m2_of (mB_of (cons_of (var_of rfl) rfl) (z := .int (if v < 0 then -v else v)) rfl) (var_of rfl) (by
    show some (PyData.bool (decide ((if v < 0 then -v else v) ≤ 1000000000))) = _
    congr 2
    exact decide_eq_decide.mpr (by split <;> omega))
  show outR (m_is_number [some (.val (.int v)), some (.val (.int 1000000000))]) = _
  unfold m_is_number
  rw [ret_of (d := .bool (decide (v.natAbs ≤ 1000000000))) ?_]
  · rfl
  · have h := andV_of (E := [some (.int v), some (.int 1000000000)]) (a := m1 (gIsi "int") (mVar 0)) (x := true) (m1_of (var_of rfl) rfl) fun _ => andV_of (a := mNotV (m1 (gIsi "bool") (mVar 0))) (x := true) (notV_of (x := false) (m1_of (var_of rfl) rfl)) fun _ => h2
    rw [Bool.true_and, Bool.true_and] at h
    exact h
theorem plain_strs : ∀ p : Pth, PyData.plainAll (p.map PyData.str) = true
  | [] => rfl
  | x :: p => by
    rw [List.map_cons, PyData.plainAll, plain_strs p]
    rfl
theorem eq_empty (p : Pth) : gEq (pathD p) (.tuple []) = some (.bool p.isEmpty) := by
  have h1 : (pathD p).plain = true := by unfold pathD; rw [PyData.plain]; exact plain_strs p
  have h2 : (PyData.tuple []).plain = true := by decide +kernel
  have h3 : decide ((PyData.tuple []).depth ≤ 60) = true := by decide +kernel
  unfold gEq gEqB
  rw [h1, h2, h3, Bool.or_true]
  cases p <;> rfl
theorem cut_take (p : Pth) (k : Nat) : gSl (pathD p) none (some (1 + (k : Int))) = some (pathD (p.take (k + 1))) := by
  show some (PyData.tuple (cutL (p.map .str) none (some (1 + (k : Int))))) = _
  unfold cutL pathD
  have e : (1 + (k : Int)) = ((k + 1 : Nat) : Int) := by omega
  rw [e, HT.sIx_nat, HT.sIx_none, List.drop_zero, Nat.sub_zero, List.map_take]
  congr 2
  rw [List.length_map]
  rcases Nat.le_total (k + 1) p.length with h | h
  · rw [Nat.min_eq_left h]
  · rw [Nat.min_eq_right h, List.take_of_length_le (by rw [List.length_map]; exact Nat.le_refl _), List.take_of_length_le (by rw [List.length_map]; exact h)]
theorem din_of {es : Sts} (h : es ≠ []) (q : Pth) : gDIn (pathD q) (stD es) = some (.bool (decide (q ∈ keys es))) := by
  rw [← val_some]
  cases es with
  | nil => exact absurd rfl h
  | cons e r =>
    show (if (keyT (pathD e.1)).isSome = true then (keyT (pathD q)).map fun kk => PyData.bool (valT (stE (e :: r)) kk).isSome else none) = _
    rw [pathD_keyT, if_pos (by rfl), pathD_keyT]
    rfl
theorem dget_of {es : Sts} (nd : (keys es).Nodup) {p : Pth} {v : Int} (h : (p, v) ∈ es) : gDGet (stD es) (pathD p) = some (.int v) := by
  cases es with
  | nil => cases h
  | cons e r =>
    show (if (keyT (pathD e.1)).isSome = true then (keyT (pathD p)).bind fun kk => valT (stE (e :: r)) kk else none) = _
    rw [pathD_keyT, if_pos (by rfl), pathD_keyT]
    exact val_mem nd h
structure BigS (es : Sts) : Prop where
  nd : (keys es).Nodup
  ps : ∀ e ∈ es, BigP e.1
theorem rngOf_two {i j : Int} (h1 : -(2 ^ 62) ≤ i) (h2 : i < 2 ^ 62) (h3 : -(2 ^ 62) ≤ j) (h4 : j < 2 ^ 62) : rngOf [.int i, .int j] = some ((List.range (j - i).toNat).map fun (k : Nat) => .int (i + (k : Int))) := by
  unfold rngOf
  dsimp only
  rw [if_pos]
  rw [decide_eq_true h1, decide_eq_true h2, decide_eq_true h3]
  exact decide_eq_true (decide_eq_true h4)
theorem rng_two {a b : Ev} {E : IL.Env} {i j : Int} (ha : a E = .ok (.int i)) (hb : b E = .ok (.int j)) : mRng (mCons a (mCons b mNil)) E = ofO (rngOf [.int i, .int j]) := by
  unfold mRng
  rw [cons_of ha (cons_of hb rfl)]
  rfl
theorem rng_up (n : Nat) (h : n ≤ 1000000) : rngOf [.int 1, .int n] = some ((List.range (n - 1)).map fun (k : Nat) => .int (1 + (k : Int))) := by
  have e : ((n : Int) - 1).toNat = n - 1 := by omega
  rw [rngOf_two (by decide) (by decide) (by omega) (by omega), e]
def stT1 : IL.Env → Res Bool := (mOr (mNot (mT (mCallN 1 g_is_path (mCons (mVar 1) mNil)))) (mOr (mT (m2 gEq (mVar 1) (mB gTup mNil))) (mNot (mT (mCallN 2 g_is_number (mCons (m2 gDGet (mVar 0) (mVar 1)) (mCons (mC (.int 1000000000)) mNil)))))))
def stT2 : IL.Env → Res Bool := (mT (mB gAny (mCons (mComp (mRng (mCons (mC (.int 1)) (mCons (mB gLen (mCons (mVar 1) mNil)) mNil))) 2 mYes (m2 gDIn (mSl (mVar 1) none (some (mVar 2))) (mVar 0))) mNil)))
def stBody : Sv := mSeq (sIf stT1 (sRet (mC (.bool false))) mSkip) (sIf stT2 (sRet (mC (.bool false))) mSkip)
theorem stT2_of {es : Sts} (hb : BigS es) {p : Pth} {v : Int} (h : (p, v) ∈ es) {env : SEnv} (h0 : Has env 0 (.val (stD es))) (h1 : Has env 1 (.val (pathD p))) (hl : env.length = 3) : stT2 (vis env) = .ok (upB (keys es) p) := by
  have bp := hb.ps _ h
  have w0 := vis_of h0
  have w1 := vis_of h1
  have ne : es ≠ [] := fun z => by rw [z] at h; cases h
  have hl2 : (vis env).length = 3 := by unfold vis; rw [List.length_map]; exact hl
  have hlen : mB gLen (mCons (mVar 1) mNil) (vis env) = .ok (.int (p.map PyData.str).length) := mB_of (cons_of (var_of w1) rfl) rfl
  rw [List.length_map] at hlen
  have bl : p.length ≤ 1000000 := of_decide_eq_true bp.len
  have hr : mRng (mCons (mC (.int 1)) (mCons (mB gLen (mCons (mVar 1) mNil)) mNil)) (vis env) = .ok ((List.range (p.length - 1)).map fun (k : Nat) => .int (1 + (k : Int))) := by
    rw [rng_two (i := 1) rfl hlen, rng_up _ bl]
    rfl
  have hc : mComp (mRng (mCons (mC (.int 1)) (mCons (mB gLen (mCons (mVar 1) mNil)) mNil))) 2 mYes (m2 gDIn (mSl (mVar 1) none (some (mVar 2))) (mVar 0)) (vis env) = .ok (.list (((List.range (p.length - 1)).map fun k => decide (p.take (k + 1) ∈ keys es)).map .bool)) := by
    rw [comp_of (h := fun d => match d with | .int n => .bool (decide (p.take n.toNat ∈ keys es)) | _ => .none) hr (decide_eq_true (by rw [List.length_map, List.length_range]; omega)) fun d hd => ?_]
    · rw [List.map_map, List.map_map]
      congr 2
      apply List.map_congr_left
      intro k _
      show PyData.bool (decide (p.take ((1 + (k : Int)).toNat) ∈ keys es)) = PyData.bool (decide (p.take (k + 1) ∈ keys es))
      rw [show (1 + (k : Int)).toNat = k + 1 by omega]
    · obtain ⟨k, _, rfl⟩ := List.mem_map.mp hd
      have v1 : ((vis env).set 2 (some (.int (1 + (k : Int)))))[1]? = some (some (pathD p)) := (List.getElem?_set_ne (by decide)).trans w1
      have v0 : ((vis env).set 2 (some (.int (1 + (k : Int)))))[0]? = some (some (stD es)) := (List.getElem?_set_ne (by decide)).trans w0
      have v2 : ((vis env).set 2 (some (.int (1 + (k : Int)))))[2]? = some (some (.int (1 + (k : Int)))) := List.getElem?_set_self (by omega)
      have hs : mSl (mVar 1) none (some (mVar 2)) ((vis env).set 2 (some (.int (1 + (k : Int))))) = .ok (pathD (p.take (k + 1))) := by
        unfold mSl
        rw [var_of v1]
        show (mPart (some (mVar 2)) _).bind _ = _
        unfold mPart
        dsimp only
        rw [var_of v2]
        show ofO (gSl (pathD p) none (some (1 + (k : Int)))) = _
        rw [cut_take]
        rfl
      refine (m2_of hs (var_of v0) (din_of ne _)).trans ?_
      show _ = Res.ok (PyData.bool (decide (p.take ((1 + (k : Int)).toNat) ∈ keys es)))
      rw [show (1 + (k : Int)).toNat = k + 1 by omega]
  exact mT_of (any_of (cons_of hc rfl))
theorem stBody_of {es : Sts} (hb : BigS es) {p : Pth} {v : Int} (h : (p, v) ∈ es) {env : SEnv} (h0 : Has env 0 (.val (stD es))) (h1 : Has env 1 (.val (pathD p))) (hl : env.length = 3) : stBody env = if oneB (keys es) (p, v) = true then .nx env else .ret (.bool false) := by
  have bp := hb.ps _ h
  have w0 := vis_of h0
  have w1 := vis_of h1
  have ne : es ≠ [] := fun z => by rw [z] at h; cases h
  have t1 : stT1 (vis env) = .ok (!(pathB p) || (p.isEmpty || !(decide (v.natAbs ≤ 1000000000)))) :=
    or_of (not_of (mT_of ((call1 (var_of w1)).trans (is_path_of p bp)))) fun _ => or_of (mT_of (m2_of (var_of w1) rfl (eq_empty p))) fun _ => not_of (mT_of ((call2 (m2_of (var_of w0) (var_of w1) (dget_of hb.nd h)) rfl).trans (is_number_of v)))
  have t2 := stT2_of hb h h0 h1 hl
  unfold stBody
  cases hx : (!(pathB p) || (p.isEmpty || !(decide (v.natAbs ≤ 1000000000)))) with
  | true =>
    rw [hx] at t1
    have o : oneB (keys es) (p, v) = false := by
      unfold oneB
      dsimp only
      revert hx
      cases pathB p <;> cases p.isEmpty <;> cases decide (v.natAbs ≤ 1000000000) <;> simp
    rw [o, if_neg Bool.false_ne_true]
    exact seq_ret (show sIf stT1 (sRet (mC (.bool false))) mSkip env = .ret (.bool false) from (if_of t1).trans rfl)
  | false =>
    rw [hx] at t1
    have o : oneB (keys es) (p, v) = !(upB (keys es) p) := by
      unfold oneB
      dsimp only
      revert hx
      cases pathB p <;> cases p.isEmpty <;> cases decide (v.natAbs ≤ 1000000000) <;> simp
    rw [o, seq_nx (show sIf stT1 (sRet (mC (.bool false))) mSkip env = .nx env from (if_of t1).trans rfl), if_of t2]
    cases upB (keys es) p <;> rfl
theorem is_state_of {es : Sts} (hb : BigS es) : g_is_state [stD es] = .ok (.bool (stateB es)) := by
  let env : SEnv := [some (.val (stD es)), none, none]
  have t0 : mNot (mT (m1 (gIsi "dict") (mVar 0))) (vis env) = .ok false := not_of (x := true) (mT_of (m1_of (var_of rfl) (by
    unfold gIsi
    rw [st_noOb, if_neg Bool.false_ne_true]
    rfl)))
  have s0 : sIf (mNot (mT (m1 (gIsi "dict") (mVar 0)))) (sRet (mC (.bool false))) mSkip env = .nx env := (if_of t0).trans rfl
  obtain ⟨h1, h2⟩ := loop_P (f := fun e : Pth × Int => pathD e.1) (i := 1) (b := stBody) (I := fun e => Has e 0 (.val (stD es)) ∧ e.length = 3) (P := oneB (keys es)) (l := es) (fun ⟨p, v⟩ hp e ⟨he, hl⟩ => by
    have hb' := stBody_of hb hp (env := e.set 1 (some (.val (pathD p)))) (he.ne (by decide)) (has_set (by omega)) (by rw [List.length_set]; exact hl)
    exact ⟨fun z => ⟨_, hb'.trans (if_pos z), he.ne (by decide), by rw [List.length_set]; exact hl⟩, fun z => hb'.trans (if_neg (by rw [z]; exact Bool.false_ne_true))⟩) env ⟨rfl, rfl⟩
  have e1 : (stE es).map (·.1) = es.map fun e => pathD e.1 := by unfold stE; rw [List.map_map]; rfl
  have fd : sForD 0 1 stBody env = noExcO (forLoop 1 stBody (es.map fun e => pathD e.1) env) := by
    rw [← e1]
    show (if isOb (stD es) = true then Out.stuck else noExcO (forLoop 1 stBody ((stE es).map (·.1)) env)) = _
    rw [st_noOb, if_neg Bool.false_ne_true]
  show outR (mSeq (sIf (mNot (mT (m1 (gIsi "dict") (mVar 0)))) (sRet (mC (.bool false))) mSkip) (mSeq (sForD 0 1 stBody) (sRet (mC (.bool true)))) env) = _
  rw [seq_nx s0]
  cases hs : stateB es with
  | true =>
    obtain ⟨e, h3, _⟩ := h1 hs
    rw [seq_nx (fd.trans (by rw [h3]; rfl))]
    rfl
  | false => rw [seq_ret (fd.trans (by rw [h2 hs]; rfl))]; rfl
theorem need_state_of {es : Sts} (hb : BigS es) (h : stateB es = true) : g_need_state [stD es] = .ok .none := by
  show outR (m_need_state [some (.val (stD es))]) = _
  unfold m_need_state
  rw [if_of (x := false) (not_of (x := true) (mT_of ((call1 (var_of rfl)).trans ((is_state_of hb).trans (by rw [h])))))]
  rfl
theorem need_state_no {es : Sts} (hb : BigS es) (h : stateB es = false) : g_need_state [stD es] = .exc .state := by
  show outR (m_need_state [some (.val (stD es))]) = _
  unfold m_need_state
  rw [if_of (x := true) (not_of (x := false) (mT_of ((call1 (var_of rfl)).trans ((is_state_of hb).trans (by rw [h])))))]
  rfl
end K70
namespace K70
open PySem IL
/-! ### plain: what is drawn -/
theorem drawn (c k : Int) : ∃ r : Int, 0 ≤ r ∧ g_law_drawn [.int c, .int k] = .ok (.int r) := by
  let r1 : Int := (c * 6364136223846793005 + (k + 1) * 1442695040888963407) % 340282366920938463463374607431768211507
  have b1 : 0 ≤ r1 ∧ r1 < 340282366920938463463374607431768211507 := ⟨Int.emod_nonneg _ (by decide), Int.emod_lt_of_pos _ (by decide)⟩
  let r2 : Int := r1 * r1 % 340282366920938463463374607431768211297
  have b2 : 0 ≤ r2 ∧ r2 < 340282366920938463463374607431768211297 := ⟨Int.emod_nonneg _ (by decide), Int.emod_lt_of_pos _ (by decide)⟩
  have b3 : 0 ≤ r2 % 18446744073709551557 ∧ r2 % 18446744073709551557 < 18446744073709551557 := ⟨Int.emod_nonneg _ (by decide), Int.emod_lt_of_pos _ (by decide)⟩
  have b4 : 0 ≤ r2 / 18446744073709551557 ∧ r2 / 18446744073709551557 < 2 ^ 128 := ⟨Int.ediv_nonneg b2.1 (by decide), by omega⟩
  let r3 : Int := (r2 % 18446744073709551557 + 1) * (r2 / 18446744073709551557 + 1) * r2
  have b5 : (r2 % 18446744073709551557 + 1) * (r2 / 18446744073709551557 + 1) ≤ 18446744073709551557 * 2 ^ 128 := Int.mul_le_mul (by omega) (by omega) (by omega) (by decide)
  have b6 : 0 ≤ (r2 % 18446744073709551557 + 1) * (r2 / 18446744073709551557 + 1) := Int.mul_nonneg (by omega) (by omega)
  refine ⟨r3 % 340282366920938463463374607431768211507, Int.emod_nonneg _ (by decide), ?_⟩
  have h1 : (sAsg 2 (m2 gMod (m2 gAdd (m2 gMul (mVar 0) (mC (.int 6364136223846793005))) (m2 gMul (m2 gAdd (mVar 1) (mC (.int 1))) (mC (.int 1442695040888963407)))) (mC (.int 340282366920938463463374607431768211507)))) [some (.val (.int c)), some (.val (.int k)), none] = .nx [some (.val (.int c)), some (.val (.int k)), some (.val (.int r1))] :=
    asg_of (m2_of (m2_of (m2_of (var_of rfl) rfl (gMul_of (mulOk_r (by decide) (by decide)))) (m2_of (m2_of (var_of rfl) rfl rfl) rfl (gMul_of (mulOk_r (by decide) (by decide)))) rfl) rfl (gMod_of (by decide)))
  have h2 : (sAsg 2 (m2 gMod (m2 gMul (mVar 2) (mVar 2)) (mC (.int 340282366920938463463374607431768211297)))) [some (.val (.int c)), some (.val (.int k)), some (.val (.int r1))] = .nx [some (.val (.int c)), some (.val (.int k)), some (.val (.int r2))] :=
    asg_of (m2_of (m2_of (var_of rfl) (var_of rfl) (gMul_of (mulOk_big (by omega) (by omega)))) rfl (gMod_of (by decide)))
  have h3 : (sAsg 2 (m2 gMul (m2 gMul (m2 gAdd (m2 gMod (mVar 2) (mC (.int 18446744073709551557))) (mC (.int 1))) (m2 gAdd (m2 gDiv (mVar 2) (mC (.int 18446744073709551557))) (mC (.int 1)))) (mVar 2))) [some (.val (.int c)), some (.val (.int k)), some (.val (.int r2))] = .nx [some (.val (.int c)), some (.val (.int k)), some (.val (.int r3))] :=
    asg_of (m2_of (m2_of (m2_of (m2_of (var_of rfl) rfl (gMod_of (by decide))) rfl rfl) (m2_of (m2_of (var_of rfl) rfl (gDiv_of (by decide) (by decide))) rfl rfl) (gMul_of (mulOk_l (by omega) (by omega)))) (var_of rfl) (gMul_of (mulOk_big (by omega) (by omega))))
  have h4 : (sRet (m2 gMod (mVar 2) (mC (.int 340282366920938463463374607431768211507)))) [some (.val (.int c)), some (.val (.int k)), some (.val (.int r3))] = .ret (.int (r3 % 340282366920938463463374607431768211507)) :=
    ret_of (m2_of (var_of rfl) rfl (gMod_of (by decide)))
  show outR (m_law_drawn [some (.val (.int c)), some (.val (.int k)), none]) = _
  unfold m_law_drawn
  rw [seq_nx h1, seq_nx h2, seq_nx h3, h4]
  rfl

def listOf : Res D → List D
  | .ok (.list ds) => ds
  | _ => []
def datOf : Res D → D
  | .ok d => d
  | _ => .none
def isL : Res D → Bool
  | .ok (.list _) => true
  | _ => false
def isOk : Res D → Bool
  | .ok _ => true
  | _ => false
def isNo : Res D → Bool
  | .ok .none => true
  | _ => false
def isF : Option D → Bool
  | some (.bool false) => true
  | _ => false
theorem isL_of {r : Res D} (h : isL r = true) : r = .ok (.list (listOf r)) := by
  match r, h with
  | .ok (.list ds), _ => rfl
theorem isOk_of {r : Res D} (h : isOk r = true) : r = .ok (datOf r) := by
  match r, h with
  | .ok d, _ => rfl
theorem isNo_of {r : Res D} (h : isNo r = true) : r = .ok .none := by
  match r, h with
  | .ok .none, _ => rfl
theorem isF_of {o : Option D} (h : isF o = true) : o = some (.bool false) := by
  match o, h with
  | some (.bool false), _ => rfl
theorem ix_mod {ds : List D} (h : 0 < ds.length) (z : Int) : ∃ d ∈ ds, gIx (.list ds) (.int (z % (ds.length : Int))) = some d := by
  have h1 : 0 ≤ z % (ds.length : Int) := Int.emod_nonneg _ (by omega)
  have h2 : z % (ds.length : Int) < ds.length := Int.emod_lt_of_pos _ (by omega)
  have hl : (z % (ds.length : Int)).toNat < ds.length := by omega
  refine ⟨ds[(z % (ds.length : Int)).toNat], List.getElem_mem hl, ?_⟩
  show L2.atI ds _ = _
  unfold L2.atI L2.ixN
  rw [if_pos h1, if_pos h2]
  exact List.getElem?_eq_getElem hl

theorem ownLV_of {i : Nat} {m : IL.Env → Res (List D)} {env : SEnv} {ds : List D} (h : m (vis env) = .ok ds) (hb : (flatTs ds && decide (big ds.length = true)) = true) : sOwnLV i m env = .nx (env.set i (some (.own (.list ds)))) := by unfold sOwnLV; rw [h]; exact if_pos hb
theorem appV_of {i : Nat} {m : Ev} {env : SEnv} {ds : List D} {d : D} (ho : Has env i (.own (.list ds))) (h : m (vis env) = .ok d) (hb : (flatT d && decide (big ds.length = true)) = true) : sAppV i m env = .nx (env.set i (some (.own (.list (ds ++ [d]))))) := by
  unfold sAppV
  rw [ho]
  dsimp only
  rw [h]
  exact if_pos hb
theorem plain_ints : ∀ ns : List Int, PyData.plainAll (ns.map PyData.int) = true
  | [] => rfl
  | n :: ns => by
    rw [List.map_cons, PyData.plainAll, plain_ints ns]
    rfl
theorem eq_nil (ns : List Int) : gEq (.list (ns.map PyData.int)) (.list []) = some (.bool ns.isEmpty) := by
  have h1 : (PyData.list (ns.map PyData.int)).plain = true := by rw [PyData.plain]; exact plain_ints ns
  have h2 : (PyData.list []).plain = true := by decide +kernel
  have h3 : decide ((PyData.list []).depth ≤ 60) = true := by decide +kernel
  unfold gEq gEqB
  rw [h1, h2, h3, Bool.or_true]
  cases ns <;> rfl
theorem cell (ns : List Int) (hlen : ns.length ≤ 63) (k : Nat) : ∃ c : Int, g_law_cell [.list (ns.map PyData.int), .int k] = .ok (.int c) := by
  let s : D := .list (ns.map PyData.int)
  have t : (mT (m2 gEq (mVar 0) (mB gLst mNil))) (vis [some (.val s), some (.val (.int k))]) = .ok ns.isEmpty := mT_of (m2_of (var_of rfl) rfl (eq_nil ns))
  by_cases hn : ns = []
  · have h1 : (sIf (mT (m2 gEq (mVar 0) (mB gLst mNil))) (sRet (m2 gMul (mVar 1) (mC (.int 7919)))) mSkip) [some (.val s), some (.val (.int k))] = .ret (.int (k * 7919)) := by
      rw [if_of t, hn]
      exact ret_of (m2_of (var_of rfl) rfl (gMul_of (mulOk_r (by decide) (by decide))))
    refine ⟨k * 7919, ?_⟩
    show outR (m_law_cell [some (.val s), some (.val (.int k))]) = _
    unfold m_law_cell
    rw [seq_ret h1]
    rfl
  · have h0 : ns.isEmpty = false := by cases ns with
      | nil => exact absurd rfl hn
      | cons a r => rfl
    have hl : 0 < (ns.map PyData.int).length := by
      rw [List.length_map]
      exact List.length_pos_iff.mpr hn
    have h1 : (sIf (mT (m2 gEq (mVar 0) (mB gLst mNil))) (sRet (m2 gMul (mVar 1) (mC (.int 7919)))) mSkip) [some (.val s), some (.val (.int k))] = .nx [some (.val s), some (.val (.int k))] := by
      rw [if_of t, h0]
      rfl
    obtain ⟨d, hd, ed⟩ := ix_mod hl k
    obtain ⟨z, _, rfl⟩ := List.mem_map.mp hd
    have hB : ((ns.map PyData.int).length : Int).natAbs < 2 ^ 400 := by
      rw [List.length_map]
      have : (64 : Nat) < 2 ^ 400 := by decide
      omega
    have hL : mB gLen (mCons (mVar 0) mNil) [some s, some (.int k)] = .ok (.int (ns.map PyData.int).length) := mB_of (cons_of (var_of rfl) rfl) rfl
    have h2 : (sRet (m2 gAdd (m2 gIx (mVar 0) (m2 gMod (mVar 1) (mB gLen (mCons (mVar 0) mNil)))) (m2 gMul (m2 gDiv (mVar 1) (mB gLen (mCons (mVar 0) mNil))) (mC (.int 104729))))) [some (.val s), some (.val (.int k))] = .ret (.int (z + k / ((ns.map PyData.int).length : Int) * 104729)) := by
      refine ret_of (m2_of (m2_of (var_of rfl) (m2_of (var_of rfl) hL (gMod_of (by omega))) ed) (m2_of (m2_of (var_of rfl) hL (gDiv_of (by omega) hB)) rfl (gMul_of (mulOk_r (by decide) (by decide)))) rfl)
    refine ⟨z + k / ((ns.map PyData.int).length : Int) * 104729, ?_⟩
    show outR (m_law_cell [some (.val s), some (.val (.int k))]) = _
    unfold m_law_cell
    rw [seq_nx h1, h2]
    rfl

/-! ### what is drawn: paths, states -/
theorem compLoop_ex {j : Nat} {f : Ev} {env : IL.Env} {R : D → Prop} : ∀ {ds : List D}, (∀ d ∈ ds, ∃ y, f (env.set j (some d)) = .ok y ∧ R y) → ∃ ys, compLoop j mYes f env ds = .ok ys ∧ ys.length = ds.length ∧ ∀ y ∈ ys, R y
  | [], _ => ⟨[], rfl, rfl, fun y h => nomatch h⟩
  | d :: r, hf => by
    obtain ⟨y, h1, h2⟩ := hf d List.mem_cons_self
    obtain ⟨ys, h3, h4, h5⟩ := compLoop_ex (ds := r) fun d hd => hf d (List.mem_cons_of_mem _ hd)
    refine ⟨y :: ys, ?_, by rw [List.length_cons, List.length_cons, h4], fun z hz => ?_⟩
    · unfold compLoop mYes
      show (noExc (f (env.set j (some d)))).bind _ = _
      rw [h1]
      show (compLoop j mYes f env r).bind _ = _
      rw [h3]
      rfl
    · rcases List.mem_cons.mp hz with rfl | hz
      · exact h2
      · exact h5 z hz
theorem comp_ex {it : IL.Env → Res (List D)} {j : Nat} {f : Ev} {E : IL.Env} {ds : List D} {R : D → Prop} (hi : it E = .ok ds) (hb : big ds.length = true) (hf : ∀ d ∈ ds, ∃ y, f (E.set j (some d)) = .ok y ∧ R y) : ∃ ys, mComp it j mYes f E = .ok (.list ys) ∧ ys.length = ds.length ∧ ∀ y ∈ ys, R y := by
  obtain ⟨ys, h1, h2, h3⟩ := compLoop_ex (env := E.set j none) (j := j) (f := f) (R := R) (ds := ds) fun d hd => by rw [List.set_set]; exact hf d hd
  refine ⟨ys, ?_, h2, h3⟩
  unfold mComp
  rw [hi]
  show (if big ds.length = true then (compLoop j mYes f (E.set j none) ds).bind (fun ys => Res.ok (PyData.list ys)) else Res.stuck) = _
  rw [if_pos hb, h1]
  rfl
theorem rng_one {a : Ev} {E : IL.Env} {j : Int} (ha : a E = .ok (.int j)) (h3 : -(2 ^ 62) ≤ j) (h4 : j < 2 ^ 62) : mRng (mCons a mNil) E = .ok ((List.range j.toNat).map fun (k : Nat) => .int (k : Int)) := by
  unfold mRng
  rw [cons_of ha rfl]
  show ofO (rngOf [.int j]) = _
  unfold rngOf
  dsimp only
  rw [if_pos]
  · rfl
  · rw [decide_eq_true h3]
    exact decide_eq_true (decide_eq_true h4)
def abc : List Str := ["a", "b", "cc"]
theorem strs_all : ∀ {ys : List D}, (∀ y ∈ ys, ∃ x ∈ abc, y = .str x) → ∃ p : Pth, ys = p.map .str ∧ ∀ x ∈ p, x ∈ abc
  | [], _ => ⟨[], rfl, fun x h => nomatch h⟩
  | y :: ys, h => by
    obtain ⟨x, hx, rfl⟩ := h y List.mem_cons_self
    obtain ⟨p, rfl, hp⟩ := strs_all (ys := ys) fun y hy => h y (List.mem_cons_of_mem _ hy)
    exact ⟨x :: p, rfl, fun z hz => (List.mem_cons.mp hz).elim (fun e => e ▸ hx) (hp z)⟩
theorem pick3 {a : Ev} {E : IL.Env} {r : Int} (ha : a E = .ok (.int r)) : ∃ x ∈ abc, m2 gIx (mB gLst (mCons (mC (.str "a")) (mCons (mC (.str "b")) (mCons (mC (.str "cc")) mNil)))) (m2 gMod a (mC (.int 3))) E = .ok (.str x) := by
  obtain ⟨d, hd, e⟩ := ix_mod (ds := [.str "a", .str "b", .str "cc"]) (by decide) r
  have hx : ∃ x ∈ abc, d = .str x := by
    rcases List.mem_cons.mp hd with rfl | hd
    · exact ⟨"a", by decide, rfl⟩
    rcases List.mem_cons.mp hd with rfl | hd
    · exact ⟨"b", by decide, rfl⟩
    rcases List.mem_cons.mp hd with rfl | hd
    · exact ⟨"cc", by decide, rfl⟩
    · cases hd
  obtain ⟨x, hx, rfl⟩ := hx
  exact ⟨x, hx, m2_of (mB_of (cons_of rfl (cons_of rfl (cons_of rfl rfl))) rfl) (m2_of ha rfl (gMod_of (by decide))) e⟩
theorem law_path_of (m : Int) : ∃ p : Pth, g_law_path [.int m, .int 3] = .ok (pathD p) ∧ p.length ≤ 3 ∧ ∀ x ∈ p, x ∈ abc := by
  have hm : m2 gMod (mVar 0) (m2 gAdd (mVar 1) (mC (.int 1))) [some (.int m), some (.int 3), none] = .ok (.int (m % 4)) := m2_of (var_of rfl) (m2_of (var_of rfl) rfl rfl) (gMod_of (by decide))
  have b1 : 0 ≤ m % 4 ∧ m % 4 < 4 := ⟨Int.emod_nonneg _ (by decide), Int.emod_lt_of_pos _ (by decide)⟩
  have hr := rng_one hm (by omega) (by omega)
  obtain ⟨ys, h1, h2, h3⟩ := comp_ex (j := 2) (f := m2 gIx (mB gLst (mCons (mC (.str "a")) (mCons (mC (.str "b")) (mCons (mC (.str "cc")) mNil)))) (m2 gMod (mCallN 2 g_law_drawn (mCons (mVar 0) (mCons (mVar 2) mNil))) (mC (.int 3)))) (R := fun y => ∃ x ∈ abc, y = .str x) hr (decide_eq_true (by rw [List.length_map, List.length_range]; omega)) (fun d hd => by
    obtain ⟨k, _, rfl⟩ := List.mem_map.mp hd
    obtain ⟨r, _, hr⟩ := drawn m k
    obtain ⟨x, hx, e⟩ := pick3 (E := [some (.int m), some (.int 3), some (.int (k : Int))]) (a := mCallN 2 g_law_drawn (mCons (mVar 0) (mCons (mVar 2) mNil))) ((call2 (var_of rfl) (var_of rfl)).trans hr)
    exact ⟨_, e, x, hx, rfl⟩)
  obtain ⟨p, rfl, hp⟩ := strs_all h3
  refine ⟨p, ?_, ?_, hp⟩
  · show outR (m_law_path [some (.val (.int m)), some (.val (.int 3)), none]) = _
    unfold m_law_path
    rw [ret_of (mB_of (cons_of h1 rfl) (z := pathD p) rfl)]
    rfl
  · rw [List.length_map, List.length_map, List.length_range] at h2
    omega
/-! equality of paths -/
theorem depth_strs : ∀ p : Pth, PyData.depthAll (p.map PyData.str) = 0
  | [] => rfl
  | x :: p => by
    rw [List.map_cons, PyData.depthAll, depth_strs p]
    rfl
theorem eqvAll_strs : ∀ p q : Pth, PyData.eqvAll (p.map PyData.str) (q.map PyData.str) = decide (p = q)
  | [], [] => by rw [decide_eq_true rfl]; rfl
  | [], y :: q => by rw [decide_eq_false (by simp)]; rfl
  | x :: p, [] => by rw [decide_eq_false (by simp)]; rfl
  | x :: p, y :: q => by
    rw [List.map_cons, List.map_cons, PyData.eqvAll, eqvAll_strs p q]
    have e : PyData.eqv (.str x) (.str y) = (x == y) := by rw [PyData.eqv]
    rw [e]
    by_cases h : x = y
    · subst h
      by_cases h2 : p = q
      · subst h2; simp
      · rw [decide_eq_false h2, decide_eq_false (by simpa using h2)]; simp
    · rw [beq_false_of_ne h, show decide (x :: p = y :: q) = false from decide_eq_false fun z => h (List.cons.inj z).1]
      rfl
theorem eq_paths (p q : Pth) : gEq (pathD p) (pathD q) = some (.bool (decide (p = q))) := by
  have h1 : ∀ p : Pth, (pathD p).plain = true := fun p => by unfold pathD; rw [PyData.plain]; exact plain_strs p
  have h3 : decide ((pathD q).depth ≤ 60) = true := decide_eq_true (by unfold pathD; rw [PyData.depth, depth_strs]; omega)
  unfold gEq gEqB
  rw [h1, h1, h3, Bool.or_true, if_pos (by rfl)]
  unfold pathD
  rw [PyData.eqv, eqvAll_strs]
  rfl
/-! the drawn state -/
structure Good (es : Sts) : Prop where
  nd : (keys es).Nodup
  pth : ∀ e ∈ es, 1 ≤ e.1.length ∧ e.1.length ≤ 4 ∧ ∀ x ∈ e.1, x ∈ abc
  val : ∀ e ∈ es, e.2.natAbs ≤ 1000000000
  ap : ∀ p ∈ keys es, ∀ q ∈ keys es, p ≠ q → p.take q.length ≠ q
theorem abc_word : ∀ x ∈ abc, wordB x = true := by decide +kernel
theorem abc_big : ∀ x ∈ abc, big x.length = true := by decide +kernel
theorem Good.big (g : Good es) : BigS es := ⟨g.nd, fun e he => ⟨decide_eq_true (by have := (g.pth e he).2.1; omega), fun x hx => abc_big x ((g.pth e he).2.2 x hx)⟩⟩
theorem Good.state (g : Good es) : stateB es = true := by
  refine List.all_eq_true.mpr fun e he => ?_
  obtain ⟨h1, h2, h3⟩ := g.pth e he
  have hw : e.1.all wordB = true := List.all_eq_true.mpr fun x hx => abc_word x (h3 x hx)
  have hp : pathB e.1 = true := by unfold pathB; rw [hw, decide_eq_true h2]; rfl
  have hn : e.1.isEmpty = false := by
    cases h : e.1 with
    | nil => rw [h] at h1; cases h1
    | cons a b => rfl
  have hu : upB (keys es) e.1 = false := by
    unfold upB
    rw [List.any_map]
    refine List.any_eq_false.mpr fun k hk => ?_
    have hk := List.mem_range.mp hk
    show ¬ (id (decide (e.1.take (k + 1) ∈ keys es)) = true)
    intro z
    have z := of_decide_eq_true (show decide (e.1.take (k + 1) ∈ keys es) = true from z)
    have l : (e.1.take (k + 1)).length = k + 1 := by rw [List.length_take]; omega
    refine g.ap e.1 (List.mem_map.mpr ⟨e, he, rfl⟩) _ z (fun y => ?_) (by rw [l])
    have := congrArg List.length y
    omega
  unfold oneB
  rw [hp, hn, hu, decide_eq_true (g.val e he)]
  rfl
theorem strip_st (es : Sts) : strip (stD es) = stD es := by cases es <;> rfl
theorem putT_new {es : Sts} {p : Pth} {v : Int} (h : p ∉ keys es) : putT (stE es) (p.map Sum.inr) (.int v) = stE (es ++ [(p, v)]) := by
  unfold putT
  have ha : ((stE es).any fun e => decide (keyT e.1 = some (p.map Sum.inr))) = false := by
    refine List.any_eq_false.mpr fun e he z => ?_
    obtain ⟨y, hy, rfl⟩ := List.mem_map.mp he
    have z := of_decide_eq_true z
    rw [show keyT (pathD y.1, PyData.int y.2).1 = some (y.1.map Sum.inr) from pathD_keyT y.1] at z
    exact h (List.mem_map.mpr ⟨y, hy, inr_inj (Option.some.inj z)⟩)
  rw [ha, if_neg Bool.false_ne_true]
  have hp : PyData.tuple ((p.map (Sum.inr : Str → L2.Key)).map kD) = pathD p := by
    unfold pathD
    rw [List.map_map]
    rfl
  rw [hp]
  unfold stE
  rw [List.map_append]
  rfl
theorem tKeys_st (es : Sts) : tKeys (stE es) = true := by
  unfold tKeys
  refine List.all_eq_true.mpr fun e he => ?_
  obtain ⟨y, _, rfl⟩ := List.mem_map.mp he
  rw [show keyT (pathD y.1, PyData.int y.2).1 = some (y.1.map Sum.inr) from pathD_keyT y.1]
  rfl
theorem cut_nat (p : Pth) (n : Nat) : gSl (pathD p) none (some (n : Int)) = some (pathD (p.take n)) := by
  show some (PyData.tuple (cutL (p.map .str) none (some (n : Int)))) = _
  unfold cutL pathD
  rw [HT.sIx_nat, HT.sIx_none, List.drop_zero, Nat.sub_zero, List.map_take]
  congr 2
  rw [List.length_map]
  rcases Nat.le_total n p.length with h | h
  · rw [Nat.min_eq_left h]
  · rw [Nat.min_eq_right h, List.take_of_length_le (by rw [List.length_map]; exact Nat.le_refl _), List.take_of_length_le (by rw [List.length_map]; exact h)]
theorem len_path {i : Nat} {E : IL.Env} {p : Pth} (h : E[i]? = some (some (pathD p))) : mB gLen (mCons (mVar i) mNil) E = .ok (.int p.length) := by
  have z : mB gLen (mCons (mVar i) mNil) E = .ok (.int (p.map PyData.str).length) := mB_of (cons_of (var_of h) rfl) rfl
  rwa [List.length_map] at z
theorem pre_of {i j : Nat} {E : IL.Env} {p q : Pth} (hi : E[i]? = some (some (pathD p))) (hj : E[j]? = some (some (pathD q))) : m2 gEq (mSl (mVar i) none (some (mB gLen (mCons (mVar j) mNil)))) (mVar j) E = .ok (.bool (decide (p.take q.length = q))) := by
  have hs : mSl (mVar i) none (some (mB gLen (mCons (mVar j) mNil))) E = .ok (pathD (p.take q.length)) := by
    unfold mSl
    rw [var_of hi]
    show (mPart (some (mB gLen (mCons (mVar j) mNil))) E).bind _ = _
    unfold mPart
    dsimp only
    rw [len_path hj]
    show ofO (gSl (pathD p) none (some (q.length : Int))) = _
    rw [cut_nat]
    rfl
  exact m2_of hs (var_of hj) (eq_paths _ _)
/-- one of the numbers of a state -/
theorem pickV {E : IL.Env} {h : Int} (hv : E[4]? = some (some (.int h))) : ∃ v : Int, v.natAbs ≤ 1000000000 ∧ m2 gIx (mB gLst (mCons (m2 gMod (m2 gDiv (mVar 4) (mC (.int 64))) (mC (.int 10))) (mCons (mC (.int 0)) (mCons (m2 gSub (mC (.int 0)) (m2 gMod (m2 gDiv (mVar 4) (mC (.int 64))) (mC (.int 50)))) (mCons (mC (.int 1000000000)) mNil))))) (m2 gMod (m2 gDiv (mVar 4) (m2 gPow (mC (.int 2)) (mC (.int 20)))) (mC (.int 4))) E = .ok (.int v) := by
  have d1 : ∀ n : Int, 0 < n → n.natAbs < 2 ^ 100 → m2 gDiv (mVar 4) (mC (.int n)) E = .ok (.int (h / n)) := fun n h1 h2 => m2_of (var_of hv) rfl (gDiv_of h1 (Nat.lt_of_lt_of_le h2 (Nat.pow_le_pow_right (by decide) (by decide))))
  have a1 : m2 gMod (m2 gDiv (mVar 4) (mC (.int 64))) (mC (.int 10)) E = .ok (.int (h / 64 % 10)) := m2_of (d1 64 (by decide) (by decide)) rfl (gMod_of (by decide))
  have a2 : m2 gSub (mC (.int 0)) (m2 gMod (m2 gDiv (mVar 4) (mC (.int 64))) (mC (.int 50))) E = .ok (.int (0 - h / 64 % 50)) := m2_of rfl (m2_of (d1 64 (by decide) (by decide)) rfl (gMod_of (by decide))) rfl
  have a3 : m2 gDiv (mVar 4) (m2 gPow (mC (.int 2)) (mC (.int 20))) E = .ok (.int (h / 1048576)) := m2_of (var_of hv) (m2_of rfl rfl (z := .int 1048576) (by with_unfolding_all rfl)) (gDiv_of (by decide) (Nat.lt_of_lt_of_le (show (1048576 : Int).natAbs < 2 ^ 100 by decide) (Nat.pow_le_pow_right (by decide) (by decide))))
  obtain ⟨d, hd, e⟩ := ix_mod (ds := [.int (h / 64 % 10), .int 0, .int (0 - h / 64 % 50), .int 1000000000]) (by show 0 < 4; decide) (h / 1048576)
  have hx : ∃ v : Int, v.natAbs ≤ 1000000000 ∧ d = .int v := by
    have b1 := Int.emod_nonneg (h / 64) (show (10 : Int) ≠ 0 by decide)
    have b2 := Int.emod_lt_of_pos (h / 64) (show (0 : Int) < 10 by decide)
    have b3 := Int.emod_nonneg (h / 64) (show (50 : Int) ≠ 0 by decide)
    have b4 := Int.emod_lt_of_pos (h / 64) (show (0 : Int) < 50 by decide)
    rcases List.mem_cons.mp hd with rfl | hd
    · exact ⟨_, by omega, rfl⟩
    rcases List.mem_cons.mp hd with rfl | hd
    · exact ⟨_, by omega, rfl⟩
    rcases List.mem_cons.mp hd with rfl | hd
    · exact ⟨_, by omega, rfl⟩
    rcases List.mem_cons.mp hd with rfl | hd
    · exact ⟨_, by omega, rfl⟩
    · cases hd
  obtain ⟨v, hv2, rfl⟩ := hx
  exact ⟨v, hv2, m2_of (mB_of (cons_of a1 (cons_of rfl (cons_of a2 (cons_of rfl rfl)))) rfl) (m2_of a3 rfl (gMod_of (by decide))) e⟩
theorem loop_cnt {i C : Nat} {b : Sv} {I : Nat → SEnv → Prop} : ∀ {ds : List D}, (∀ d ∈ ds, ∀ c env, c < C → I c env → ∃ e, b (env.set i (some (.val d))) = .nx e ∧ I (c + 1) e) → ∀ c env, c + ds.length ≤ C → I c env → ∃ e, forLoop i b ds env = .nx e ∧ I (c + ds.length) e
  | [], _, c, env, _, h => ⟨env, rfl, h⟩
  | d :: r, st, c, env, hc, h => by
    rw [List.length_cons] at hc
    obtain ⟨e, h1, h2⟩ := st d List.mem_cons_self c env (by omega) h
    obtain ⟨e', h3, h4⟩ := loop_cnt (ds := r) (fun d hd => st d (List.mem_cons_of_mem _ hd)) (c + 1) e (by omega) h2
    refine ⟨e', by unfold forLoop; rw [h1]; exact h3, ?_⟩
    rw [List.length_cons, show c + (r.length + 1) = c + 1 + r.length by omega]
    exact h4
def sb0 : Sv := (sAsg 4 (mCallN 2 g_law_drawn (mCons (mVar 0) (mCons (mVar 3) mNil))))
def sb1 : Sv := (sAsg 5 (m2 gAdd (mB gTup (mCons (m2 gIx (mB gLst (mCons (mC (.str "a")) (mCons (mC (.str "b")) (mCons (mC (.str "cc")) mNil)))) (m2 gMod (m2 gDiv (mVar 4) (mC (.int 4))) (mC (.int 3)))) mNil)) (mCallN 2 g_law_path (mCons (mCallN 2 g_law_drawn (mCons (mVar 4) (mCons (mC (.int 1)) mNil))) (mCons (mC (.int 3)) mNil)))))
def sbT : IL.Env → Res Bool := (mNot (mT (mB gAny (mCons (mCompD 2 6 mYes (mOrV (m2 gEq (mSl (mVar 5) none (some (mB gLen (mCons (mVar 6) mNil)))) (mVar 6)) (m2 gEq (mSl (mVar 6) none (some (mB gLen (mCons (mVar 5) mNil)))) (mVar 5)))) mNil))))
def sbV : Ev := m2 gIx (mB gLst (mCons (m2 gMod (m2 gDiv (mVar 4) (mC (.int 64))) (mC (.int 10))) (mCons (mC (.int 0)) (mCons (m2 gSub (mC (.int 0)) (m2 gMod (m2 gDiv (mVar 4) (mC (.int 64))) (mC (.int 50)))) (mCons (mC (.int 1000000000)) mNil))))) (m2 gMod (m2 gDiv (mVar 4) (m2 gPow (mC (.int 2)) (mC (.int 20)))) (mC (.int 4)))
def sb2 : Sv := (sIf sbT (sPutT 2 sbV (mVar 5)) mSkip)
def sbody : Sv := mSeq sb0 (mSeq sb1 sb2)
structure KpS (m : Int) (c : Nat) (env : SEnv) : Prop where
  ex : ∃ es : Sts, Good es ∧ es.length ≤ c ∧ Has env 2 (.own (stD es))
  len : env.length = 7
  scr : Has env 0 (.val (.int m))
theorem sbody_of {m : Int} {c : Nat} {env : SEnv} (hc : c < 100) (k : KpS m c env) {j : Int} (hj : Has env 3 (.val (.int j))) : ∃ e, sbody env = .nx e ∧ KpS m (c + 1) e := by
  obtain ⟨⟨es, g, hl, ho⟩, len, scr⟩ := k
  obtain ⟨h, _, hd⟩ := drawn m j
  have s0 : sb0 env = .nx (env.set 4 (some (.val (.int h)))) := asg_of ((call2 (var_of (hid_of scr)) (var_of (hid_of hj))).trans hd)
  have l1 : (env.set 4 (some (.val (.int h)))).length = 7 := by rw [List.length_set]; exact len
  have v4 : Has (env.set 4 (some (.val (.int h)))) 4 (.val (.int h)) := has_set (by omega)
  have c1 : Has (env.set 4 (some (.val (.int h)))) 0 (.val (.int m)) := scr.ne (by decide)
  have o1 : Has (env.set 4 (some (.val (.int h)))) 2 (.own (stD es)) := ho.ne (by decide)
  generalize env.set 4 (some (.val (.int h))) = e1 at s0 l1 v4 c1 o1
  have dv : m2 gDiv (mVar 4) (mC (.int 4)) (hid e1) = .ok (.int (h / 4)) := m2_of (var_of (hid_of v4)) rfl (gDiv_of (by decide) (Nat.lt_of_lt_of_le (show (4 : Int).natAbs < 2 ^ 100 by decide) (Nat.pow_le_pow_right (by decide) (by decide))))
  obtain ⟨x, hx, ex⟩ := pick3 dv
  obtain ⟨h2, _, hd2⟩ := drawn h 1
  obtain ⟨q, hq, hql, hqa⟩ := law_path_of h2
  have s1 : sb1 e1 = .nx (e1.set 5 (some (.val (pathD (x :: q))))) := asg_of (m2_of (mB_of (cons_of ex rfl) (z := .tuple [.str x]) rfl) ((call2 ((call2 (var_of (hid_of v4)) rfl).trans hd2) rfl).trans hq) (by
    show (if big ([PyData.str x].length + (q.map PyData.str).length) = true then some (PyData.tuple ([PyData.str x] ++ q.map PyData.str)) else none) = _
    rw [if_pos (show big ([PyData.str x].length + (q.map PyData.str).length) = true from decide_eq_true (by rw [List.length_map]; simp; omega))]
    rfl))
  have l2 : (e1.set 5 (some (.val (pathD (x :: q))))).length = 7 := by rw [List.length_set]; exact l1
  have w4 : Has (e1.set 5 (some (.val (pathD (x :: q))))) 4 (.val (.int h)) := v4.ne (by decide)
  have w5 : Has (e1.set 5 (some (.val (pathD (x :: q))))) 5 (.val (pathD (x :: q))) := has_set (by omega)
  have c2 : Has (e1.set 5 (some (.val (pathD (x :: q))))) 0 (.val (.int m)) := c1.ne (by decide)
  have o2 : Has (e1.set 5 (some (.val (pathD (x :: q))))) 2 (.own (stD es)) := o1.ne (by decide)
  generalize e1.set 5 (some (.val (pathD (x :: q)))) = e2 at s1 l2 w4 w5 c2 o2
  generalize hp : x :: q = p at w5
  have pl : 1 ≤ p.length ∧ p.length ≤ 4 ∧ ∀ y ∈ p, y ∈ abc := by
    subst hp
    rw [List.length_cons]
    exact ⟨by omega, by omega, fun y hy => (List.mem_cons.mp hy).elim (fun z => z ▸ hx) (hqa y)⟩
  have be : big (stE es).length = true := decide_eq_true (by unfold stE; rw [List.length_map]; omega)
  have hcmp : mCompD 2 6 mYes (mOrV (m2 gEq (mSl (mVar 5) none (some (mB gLen (mCons (mVar 6) mNil)))) (mVar 6)) (m2 gEq (mSl (mVar 6) none (some (mB gLen (mCons (mVar 5) mNil)))) (mVar 5))) (vis e2) = .ok (.list ((es.map fun z => (decide (p.take z.1.length = z.1) || decide (z.1.take p.length = p))).map .bool)) := by
    have vo : (vis e2)[2]? = some (some (.dict (stE es))) := by
      rw [vis_own o2, strip_st]
      rfl
    have vl : (vis e2).length = 7 := by unfold vis; rw [List.length_map]; exact l2
    have ff : ∀ z ∈ es, (mOrV (m2 gEq (mSl (mVar 5) none (some (mB gLen (mCons (mVar 6) mNil)))) (mVar 6)) (m2 gEq (mSl (mVar 6) none (some (mB gLen (mCons (mVar 5) mNil)))) (mVar 5))) ((vis e2).set 6 (some (pathD z.1))) = .ok (.bool (decide (p.take z.1.length = z.1) || decide (z.1.take p.length = p))) := fun z _ => by
      have u5 : ((vis e2).set 6 (some (pathD z.1)))[5]? = some (some (pathD p)) := (List.getElem?_set_ne (by decide)).trans (vis_of w5)
      have u6 : ((vis e2).set 6 (some (pathD z.1)))[6]? = some (some (pathD z.1)) := List.getElem?_set_self (by omega)
      exact orV_of (pre_of u5 u6) fun _ => pre_of u6 u5
    unfold mCompD
    rw [vo]
    dsimp only
    rw [show isOb (.dict (stE es)) = false from st_noOb es, if_neg Bool.false_ne_true, if_pos be]
    have hcl : ∀ l : Sts, (∀ z ∈ l, z ∈ es) → compLoop 6 mYes (mOrV (m2 gEq (mSl (mVar 5) none (some (mB gLen (mCons (mVar 6) mNil)))) (mVar 6)) (m2 gEq (mSl (mVar 6) none (some (mB gLen (mCons (mVar 5) mNil)))) (mVar 5))) ((vis e2).set 6 none) ((stE l).map (·.1)) = .ok ((l.map fun z => (decide (p.take z.1.length = z.1) || decide (z.1.take p.length = p))).map .bool) := by
      intro l hl
      induction l with
      | nil => rfl
      | cons z l ih =>
        show compLoop 6 mYes _ ((vis e2).set 6 none) (pathD z.1 :: (stE l).map (·.1)) = _
        unfold compLoop
        show (noExc (mOrV _ _ (((vis e2).set 6 none).set 6 (some (pathD z.1))))).bind _ = _
        rw [List.set_set, ff z (hl z List.mem_cons_self)]
        show (compLoop 6 mYes _ ((vis e2).set 6 none) ((stE l).map (·.1))).bind _ = _
        rw [ih fun y hy => hl y (List.mem_cons_of_mem _ hy)]
        rfl
    rw [hcl es fun z hz => hz]
    rfl
  have ht : sbT (vis e2) = .ok (!((es.map fun z => (decide (p.take z.1.length = z.1) || decide (z.1.take p.length = p))).any id)) := not_of (mT_of (any_of (cons_of hcmp rfl)))
  rw [List.any_map] at ht
  cases hany : es.any (id ∘ fun z => (decide (p.take z.1.length = z.1) || decide (z.1.take p.length = p))) with
  | true =>
    rw [hany] at ht
    have s2 : sb2 e2 = .nx e2 := (if_of ht).trans rfl
    refine ⟨e2, ?_, ⟨es, g, by omega, o2⟩, l2, c2⟩
    unfold sbody
    rw [seq_nx s0, seq_nx s1, s2]
  | false =>
    rw [hany] at ht
    have no := List.any_eq_false.mp hany
    have no1 : ∀ z ∈ es, p.take z.1.length ≠ z.1 ∧ z.1.take p.length ≠ p := fun z hz => by
      have := no z hz
      simp only [Function.comp_apply, id_eq, Bool.or_eq_true, decide_eq_true_eq, not_or] at this
      exact this
    have nk : p ∉ keys es := fun hm => by
      obtain ⟨z, hz, e⟩ := List.mem_map.mp hm
      refine (no1 z hz).2 ?_
      have e : z.1 = p := e
      rw [e, List.take_length]
    obtain ⟨v, hv, ev⟩ := pickV (hid_of w4)
    have s2 : sb2 e2 = .nx (e2.set 2 (some (.own (stD (es ++ [(p, v)]))))) := by
      refine (if_of ht).trans ?_
      show sPutT 2 sbV (mVar 5) e2 = _
      unfold sPutT
      rw [show e2[2]? = some (some (.own (.dict (stE es)))) from o2]
      dsimp only
      rw [show sbV (hid e2) = .ok (.int v) from ev]
      show liftR (mVar 5 (hid e2)) _ = _
      rw [var_of (hid_of w5)]
      show (match keyT (pathD p) with | some kk => if tKeys (stE es) && big (stE es).length = true then Out.nx (e2.set 2 (some (.own (.dict (putT (stE es) kk (.int v)))))) else .stuck | none => .stuck) = _
      rw [pathD_keyT]
      dsimp only
      rw [tKeys_st, decide_eq_true be, if_pos (by rfl), putT_new nk]
      rfl
    refine ⟨e2.set 2 (some (.own (stD (es ++ [(p, v)])))), ?_, ⟨es ++ [(p, v)], ⟨?_, ?_, ?_, ?_⟩, by rw [List.length_append]; simp; omega, has_set (by omega)⟩, by rw [List.length_set]; exact l2, c2.ne (by decide)⟩
    · unfold sbody
      rw [seq_nx s0, seq_nx s1, s2]
    · unfold keys
      rw [List.map_append]
      refine List.nodup_append.mpr ⟨g.nd, by simp, fun a ha b hb z => ?_⟩
      have hb : b = p := by simpa using hb
      rw [z, hb] at ha
      exact nk ha
    · intro e he
      rcases List.mem_append.mp he with he | he
      · exact g.pth e he
      · have : e = (p, v) := by simpa using he
        rw [this]; exact pl
    · intro e he
      rcases List.mem_append.mp he with he | he
      · exact g.val e he
      · have : e = (p, v) := by simpa using he
        rw [this]; exact hv
    · unfold keys
      rw [List.map_append]
      intro a ha b hb n
      rcases List.mem_append.mp ha with ha1 | ha1 <;> rcases List.mem_append.mp hb with hb1 | hb1
      · exact g.ap a ha1 b hb1 n
      · have e : b = p := by simpa using hb1
        rw [e]
        obtain ⟨z, hz, rfl⟩ := List.mem_map.mp ha1
        exact (no1 z hz).2
      · have e : a = p := by simpa using ha1
        rw [e]
        obtain ⟨z, hz, rfl⟩ := List.mem_map.mp hb1
        exact (no1 z hz).1
      · have e : a = p := by simpa using ha1
        have e2 : b = p := by simpa using hb1
        exact absurd (e.trans e2.symm) n
theorem law_state_of (m n : Int) (h0 : 0 ≤ n) (h1 : n ≤ 50) : ∃ es : Sts, g_law_state [.int m, .int n] = .ok (stD es) ∧ Good es ∧ es.length ≤ 50 := by
  let env : SEnv := [some (.val (.int m)), some (.val (.int n)), none, none, none, none, none]
  have s0 : sOwnD 2 env = .nx (env.set 2 (some (.own (stD [])))) := rfl
  have hm : m2 gMod (mVar 0) (m2 gAdd (mVar 1) (mC (.int 1))) (hid (env.set 2 (some (.own (stD []))))) = .ok (.int (m % (n + 1))) := m2_of (var_of rfl) (m2_of (var_of rfl) rfl rfl) (gMod_of (by omega))
  have b1 : 0 ≤ m % (n + 1) ∧ m % (n + 1) < n + 1 := ⟨Int.emod_nonneg _ (by omega), Int.emod_lt_of_pos _ (by omega)⟩
  have hr := rng_one hm (by omega) (by omega)
  obtain ⟨e, h2, ⟨es, g, hl, ho⟩, _, _⟩ := loop_cnt (i := 3) (C := 100) (b := sbody) (I := KpS m) (ds := (List.range (m % (n + 1)).toNat).map fun (k : Nat) => .int (k : Int)) (fun d hd c e hc k => by
    obtain ⟨j, _, rfl⟩ := List.mem_map.mp hd
    exact sbody_of hc ⟨let ⟨es, g, hl, ho⟩ := k.ex; ⟨es, g, hl, ho.ne (by decide)⟩, by rw [List.length_set]; exact k.len, k.scr.ne (by decide)⟩ (has_set (by rw [k.len]; decide))) 0 (env.set 2 (some (.own (stD [])))) (by rw [List.length_map, List.length_range]; omega) ⟨⟨[], ⟨List.nodup_nil, fun e h => (nomatch h), fun e h => (nomatch h), fun p h => (nomatch h)⟩, Nat.zero_le _, rfl⟩, rfl, rfl⟩
  refine ⟨es, ?_, g, by rw [List.length_map, List.length_range] at hl; omega⟩
  show outR (mSeq (sOwnD 2) (mSeq (sFor (mRng (mCons (m2 gMod (mVar 0) (m2 gAdd (mVar 1) (mC (.int 1)))) mNil)) 3 sbody) (sRet (mVar 2))) env) = _
  rw [seq_nx s0, seq_nx ((for_of hr).trans h2), ret_of (var_of (vis_own ho)), strip_st]
  rfl
end K70
namespace K70
open PySem IL
/-! ### plain: paths and numbers as texts -/
theorem tjoin (s : Str) (ps : List Str) : Txt.join s ps = Str.join s ps := StrLaws.glued_eq_join s ps
theorem strL_map : ∀ p : Pth, strL (p.map PyData.str) = some p
  | [] => rfl
  | x :: p => by
    show (strL (p.map PyData.str)).map (x :: ·) = _
    rw [strL_map p]
    rfl
theorem joinOk_of {s : Str} {ps : List Str} {B : Nat} (hp : ∀ p ∈ ps, p.length ≤ B) (h : ps.length * (B + s.length) ≤ 1000000) : joinOk s ps = true := by
  refine decide_eq_true (Nat.le_trans ?_ h)
  have := StrLaws.sumLen_le ps hp
  rw [Nat.mul_add]
  omega
theorem join_len {s : Str} {B : Nat} : ∀ {ps : List Str}, (∀ p ∈ ps, p.length ≤ B) → (Str.join s ps).length ≤ ps.length * (B + s.length)
  | [], _ => by show (Str.empty).length ≤ _; exact Nat.zero_le _
  | [p], h => by rw [join_one]; have := h p List.mem_cons_self; simp; omega
  | p :: q :: r, h => by
    rw [join_cons, len_app, len_app, List.length_cons]
    have h1 := h p List.mem_cons_self
    have h2 := join_len (s := s) (ps := q :: r) fun z hz => h z (List.mem_cons_of_mem _ hz)
    have : ((q :: r).length + 1) * (B + s.length) = (q :: r).length * (B + s.length) + (B + s.length) := by rw [Nat.add_mul, Nat.one_mul]
    omega
theorem gJoin_of {s : Str} {ps : List Str} (h : joinOk s ps = true) : gJoin (.str s) (.list (ps.map .str)) = some (.str (Str.join s ps)) := by
  show (strL (ps.map PyData.str)).bind (fun ys => if joinOk s ys = true then some (PyData.str (Txt.join s ys)) else none) = _
  rw [strL_map]
  show (if joinOk s ps = true then some (PyData.str (Txt.join s ps)) else none) = _
  rw [if_pos h, tjoin]
theorem gJoinT_of {s : Str} {ps : List Str} (h : joinOk s ps = true) : gJoin (.str s) (.tuple (ps.map .str)) = some (.str (Str.join s ps)) := by
  show (strL (ps.map PyData.str)).bind (fun ys => if joinOk s ys = true then some (PyData.str (Txt.join s ys)) else none) = _
  rw [strL_map]
  show (if joinOk s ps = true then some (PyData.str (Txt.join s ps)) else none) = _
  rw [if_pos h, tjoin]
theorem mM1_of {g : D → D → Option D} {a b : Ev} {E : IL.Env} {x : Str} {e z : D} (h : a E = .ok (.str x)) (h' : b E = .ok e) (hz : g (.str x) e = some z) : mM1 g a b E = .ok z := by
  unfold mM1
  rw [h]
  show (b E).bind (fun e => ofO (g (.str x) e)) = _
  rw [h']
  show ofO (g (.str x) e) = _
  rw [hz]
  rfl
theorem gSplit_of {x : Str} {c : Nat} {y : Str} (hy : y = one c) (h : x.length ≤ 100000) : gSplit (.str x) (.str y) = some (.list ((Txt.split x (one c)).map .str)) := by
  subst hy
  show (if !((one c).length == 0) && big (x.length + 2) = true then some (PyData.list ((Txt.split x (one c)).map .str)) else none) = _
  rw [if_pos]
  have : big (x.length + 2) = true := decide_eq_true (by omega)
  rw [this]
  rfl
def pathTx (p : Pth) : Str := if p = [] then "." else Str.join "." p
/-- a path that is written in few signs -/
def smallP (p : Pth) : Prop := p.length ≤ 4 ∧ ∀ x ∈ p, x.length ≤ 6
theorem small_of {p : Pth} (h : pathB p = true) : smallP p := by
  unfold pathB at h
  rw [Bool.and_eq_true, decide_eq_true_eq, List.all_eq_true] at h
  refine ⟨h.1, fun x hx => ?_⟩
  have := h.2 x hx
  unfold wordB at this
  simp only [Bool.and_eq_true, decide_eq_true_eq] at this
  exact this.1.2
theorem path_join {p : Pth} (h : smallP p) : joinOk "." p = true := joinOk_of (B := 6) h.2 (by
  have : ("." : Str).length = 1 := by decide
  have := h.1
  rw [‹("." : Str).length = 1›]
  omega)
theorem pathTx_len {p : Pth} (h : smallP p) : (pathTx p).length ≤ 28 := by
  unfold pathTx
  split
  · decide
  · have z := join_len (s := ".") h.2
    have : ("." : Str).length = 1 := by decide
    rw [this] at z
    have := h.1
    omega
theorem ne_empty (p : Pth) : gNe (pathD p) (.tuple []) = some (.bool (!p.isEmpty)) := by
  have h := eq_empty p
  unfold gEq at h
  unfold gNe
  cases hb : gEqB (pathD p) (.tuple []) with
  | none => rw [hb] at h; cases h
  | some b => rw [hb] at h; cases h; rfl
theorem path_text_m (p : Pth) (h : smallP p) : (mIf (mT (m2 gNe (mVar 0) (mB gTup mNil))) (mM1 gJoin (mC (.str ".")) (mVar 0)) (mC (.str "."))) [some (pathD p)] = .ok (.str (pathTx p)) := by
  have t : mT (m2 gNe (mVar 0) (mB gTup mNil)) [some (pathD p)] = .ok (!p.isEmpty) := mT_of (m2_of (var_of rfl) rfl (ne_empty p))
  cases p with
  | nil => rw [mif_f t]; rfl
  | cons x p =>
    rw [mif_t t]
    exact mM1_of (x := ".") rfl (var_of rfl) (by rw [show pathD (x :: p) = .tuple ((x :: p).map .str) from rfl, gJoinT_of (path_join h)]; rfl)
theorem path_text_of (p : Pth) (h : smallP p) : g_path_text [pathD p] = .ok (.str (pathTx p)) := by
  show outR (m_path_text [some (.val (pathD p))]) = _
  unfold m_path_text
  rw [ret_of (path_text_m p h)]
  rfl
theorem law_path_text_of (p : Pth) (h : smallP p) : g_law_path_text [pathD p] = .ok (.str (pathTx p)) := by
  show outR (m_law_path_text [some (.val (pathD p))]) = _
  unfold m_law_path_text
  rw [ret_of (path_text_m p h)]
  rfl
theorem eq_strs (x y : Str) : gEq (.str x) (.str y) = some (.bool (x == y)) := by
  have h1 : (PyData.str x).plain = true := by rw [PyData.plain]
  have h2 : (PyData.str y).plain = true := by rw [PyData.plain]
  have h3 : decide ((PyData.str y).depth ≤ 60) = true := by rw [PyData.depth]; rfl
  unfold gEq gEqB
  rw [h1, h2, h3, Bool.or_true, if_pos (by rfl), PyData.eqv]
  rfl
theorem ne_strs (x y : Str) : gNe (.str x) (.str y) = some (.bool (!(x == y))) := by
  have h := eq_strs x y
  unfold gEq at h
  unfold gNe
  cases hb : gEqB (.str x) (.str y) with
  | none => rw [hb] at h; cases h
  | some b => rw [hb] at h; cases h; rfl
def pathIn (x : Str) : Pth := if x = "." then [] else Txt.split x (one 46)
theorem path_in_of (x : Str) (h : x.length ≤ 100000) : g_path_in [.str x] = .ok (pathD (pathIn x)) := by
  have t : mT (m2 gNe (mVar 0) (mC (.str "."))) [some (.str x)] = .ok (!(x == ".")) := mT_of (m2_of (var_of rfl) rfl (ne_strs x "."))
  show outR (m_path_in [some (.val (.str x))]) = _
  unfold m_path_in pathIn
  by_cases hx : x = "."
  · subst hx
    rw [if_pos rfl, ret_of (d := pathD []) ((mif_f (t.trans (by rw [beq_self_eq_true]; rfl))).trans rfl)]
    rfl
  · rw [if_neg hx, ret_of (d := pathD (Txt.split x (one 46))) ((mif_t (t.trans (by rw [beq_false_of_ne hx]; rfl))).trans (mB_of (cons_of (mM1_of (x := x) (var_of rfl) rfl (gSplit_of dot_one h)) rfl) rfl))]
    rfl
theorem pathIn_big {x : Str} (h : x.length ≤ 100000) : BigP (pathIn x) := by
  unfold pathIn
  split
  · exact ⟨rfl, fun x h => nomatch h⟩
  · exact ⟨decide_eq_true (by have := split_many x 46; omega), fun w hw => decide_eq_true (by have := split_len x 46 w hw; omega)⟩
/-- the words of a path are small: letters alone -/
theorem word_free {x : Str} (h : wordB x = true) (k : Nat) (hk : k < 97 ∨ 122 < k) : k ∉ sg x := fun hm => by
  unfold wordB at h
  simp only [Bool.and_eq_true, List.all_eq_true] at h
  have h2 := of_decide_eq_true (h.2 k hm)
  have : ∀ c ∈ small.cps.toList, 97 ≤ c ∧ c ≤ 122 := by decide +kernel
  have := this k h2
  omega
theorem word_ne {x : Str} (h : wordB x = true) : 1 ≤ x.length := by
  unfold wordB at h
  simp only [Bool.and_eq_true, decide_eq_true_eq] at h
  exact h.1.1
theorem pathIn_tx {p : Pth} (h : pathB p = true) : pathIn (pathTx p) = p := by
  unfold pathB at h
  rw [Bool.and_eq_true, List.all_eq_true] at h
  unfold pathTx
  by_cases hp : p = []
  · rw [if_pos hp, hp]; rfl
  · rw [if_neg hp]
    have hs := split_join (c := 46) hp fun x hx => word_free (h.2 x hx) 46 (.inl (by decide))
    unfold pathIn
    rw [dot_one]
    rw [if_neg, hs]
    intro z
    rw [z] at hs
    have e : Txt.split (one 46) (one 46) = [Str.empty, Str.empty] := by decide +kernel
    rw [e] at hs
    have := word_ne (h.2 Str.empty (by rw [← hs]; simp))
    exact absurd this (by decide)
theorem pathTx_free {p : Pth} (h : pathB p = true) (k : Nat) (hk : (k < 97 ∨ 122 < k) ∧ k ≠ 46) : k ∉ sg (pathTx p) := by
  unfold pathB at h
  rw [Bool.and_eq_true, List.all_eq_true] at h
  unfold pathTx
  rw [dot_one]
  split
  · show k ∉ [46]
    simpa using hk.2
  · have : ∀ ps : Pth, (∀ x ∈ ps, wordB x = true) → k ∉ sg (Str.join (one 46) ps) := by
      intro ps
      induction ps with
      | nil => intro _ z; cases z
      | cons a r ih =>
        intro hr
        cases r with
        | nil => rw [join_one]; exact word_free (hr a List.mem_cons_self) k hk.1
        | cons b r =>
          rw [sg_join]
          intro z
          rcases List.mem_append.mp z with z | z
          · exact word_free (hr a List.mem_cons_self) k hk.1 z
          · rcases List.mem_cons.mp z with z | z
            · exact hk.2 z
            · exact ih (fun x hx => hr x (List.mem_cons_of_mem _ hx)) z
    exact this p h.2
/-! numbers -/
theorem sg_to (x : Str) (n : Nat) : sg (L2.cutS x none (some (n : Int))) = (sg x).take n := by
  show ((x.cps.toList.drop (HT.sIx x.length 0 none)).take (HT.sIx x.length x.length (some (n : Int)) - HT.sIx x.length 0 none)).toArray.toList = _
  rw [HT.sIx_none, HT.sIx_nat, List.drop_zero, Nat.sub_zero]
  show (sg x).take (min n x.length) = _
  rw [len_sg]
  rcases Nat.le_total n (sg x).length with h | h
  · rw [Nat.min_eq_left h]
  · rw [Nat.min_eq_right h, List.take_of_length_le (Nat.le_refl _), List.take_of_length_le h]
theorem sg_from (x : Str) (n : Nat) : sg (L2.cutS x (some (n : Int)) none) = (sg x).drop n := by
  show ((x.cps.toList.drop (HT.sIx x.length 0 (some (n : Int)))).take (HT.sIx x.length x.length none - HT.sIx x.length 0 (some (n : Int)))).toArray.toList = _
  rw [HT.sIx_none, HT.sIx_nat]
  show ((sg x).drop (min n x.length)).take (x.length - min n x.length) = _
  rw [len_sg]
  rcases Nat.le_total n (sg x).length with h | h
  · rw [Nat.min_eq_left h, List.take_of_length_le (by rw [List.length_drop]; exact Nat.le_refl _)]
  · rw [Nat.min_eq_right h, Nat.sub_self, List.take_zero, List.drop_eq_nil_of_le h]
theorem sl_from (x : Str) (n : Nat) (h : x.length ≤ 100000) : gSl (.str x) (some (n : Int)) none = some (.str (L2.cutS x (some (n : Int)) none)) := by
  show (if big x.length = true then some (PyData.str (L2.cutS x (some (n : Int)) none)) else none) = _
  rw [if_pos (show big x.length = true from decide_eq_true (by omega))]
theorem sl_to (x : Str) (n : Nat) (h : x.length ≤ 100000) : gSl (.str x) none (some (n : Int)) = some (.str (L2.cutS x none (some (n : Int)))) := by
  show (if big x.length = true then some (PyData.str (L2.cutS x none (some (n : Int)))) else none) = _
  rw [if_pos (show big x.length = true from decide_eq_true (by omega))]
theorem sg_to1 (x : Str) : sg (L2.cutS x none (some 1)) = (sg x).take 1 := sg_to x 1
theorem sg_from1 (x : Str) : sg (L2.cutS x (some 1) none) = (sg x).drop 1 := sg_from x 1
theorem sl_fm {a b : Ev} {E : IL.Env} {x : Str} {n : Nat} (ha : a E = .ok (.str x)) (hb : b E = .ok (.int n)) (h : x.length ≤ 100000) : mSl a (some b) none E = .ok (.str (L2.cutS x (some (n : Int)) none)) := by
  unfold mSl
  rw [ha]
  show (mPart (some b) E).bind _ = _
  unfold mPart
  dsimp only
  rw [hb]
  show ofO (gSl (.str x) (some (n : Int)) none) = _
  rw [sl_from x n h]
  rfl
theorem sl_tm {a b : Ev} {E : IL.Env} {x : Str} {n : Nat} (ha : a E = .ok (.str x)) (hb : b E = .ok (.int n)) (h : x.length ≤ 100000) : mSl a none (some b) E = .ok (.str (L2.cutS x none (some (n : Int)))) := by
  unfold mSl
  rw [ha]
  show (mPart (some b) E).bind (fun h => ofO (gSl (.str x) none h)) = _
  unfold mPart
  dsimp only
  rw [hb]
  show ofO (gSl (.str x) none (some (n : Int))) = _
  rw [sl_to x n h]
  rfl
def figs : Str := "0123456789"
theorem fig_of {c : Nat} : c ∈ sg figs ↔ 48 ≤ c ∧ c ≤ 57 := by
  have h1 : ∀ c ∈ sg figs, 48 ≤ c ∧ c ≤ 57 := by decide +kernel
  have h2 : ∀ k < 10, 48 + k ∈ sg figs := by decide +kernel
  refine ⟨h1 c, fun ⟨a, b⟩ => ?_⟩
  have := h2 (c - 48) (by omega)
  rwa [show 48 + (c - 48) = c by omega] at this
def figOk (f : Str) : Bool := decide (1 ≤ f.length) && (decide (f.length ≤ 10) && (sg f).all fun c => decide (c ∈ sg figs))
theorem figOk_iff {f : Str} : figOk f = true ↔ (1 ≤ f.length ∧ f.length ≤ 10 ∧ PySem.NumText.AllDigits (sg f)) := by
  unfold figOk
  simp only [Bool.and_eq_true, decide_eq_true_eq, List.all_eq_true]
  constructor
  · intro ⟨h1, h2, h3⟩
    exact ⟨h1, h2, fun c hc => fig_of.mp (h3 c hc)⟩
  · intro ⟨h1, h2, h3⟩
    exact ⟨h1, h2, fun c hc => fig_of.mpr (h3 c hc)⟩
def figsOf (x : Str) : Str := if L2.cutS x none (some 1) = "-" then L2.cutS x (some 1) none else x
theorem need_tx (b : Bool) : g_need_text [.bool b] = if b = true then .ok .none else .exc .text := by cases b <;> rfl
theorem number_in_m (x : Str) (h : x.length ≤ 100000) : g_number_in [.str x] = if figOk (figsOf x) = true then outR (sRet (mB gIntS (mCons (mVar 0) mNil)) [some (.val (.str x)), some (.val (.str (figsOf x))), none]) else .exc .text := by
  let env : SEnv := [some (.val (.str x)), none, none]
  have hf : (mIf (mT (m2 gEq (mSl (mVar 0) none (some (mC (.int 1)))) (mC (.str "-")))) (mSl (mVar 0) (some (mC (.int 1))) none) (mVar 0)) (hid env) = .ok (.str (figsOf x)) := by
    have t : mT (m2 gEq (mSl (mVar 0) none (some (mC (.int 1)))) (mC (.str "-"))) (hid env) = .ok (L2.cutS x none (some 1) == "-") := mT_of (m2_of (sl_tm (n := 1) (var_of rfl) rfl h) rfl (eq_strs _ _))
    unfold figsOf
    by_cases hx : L2.cutS x none (some 1) = "-"
    · rw [if_pos hx, mif_t (t.trans (by rw [hx, beq_self_eq_true]))]
      exact sl_fm (n := 1) (var_of rfl) rfl h
    · rw [if_neg hx, mif_f (t.trans (by rw [beq_false_of_ne hx]))]
      rfl
  have fl : (figsOf x).length ≤ 100000 := by
    unfold figsOf
    split
    · rw [len_sg, sg_from1, List.length_drop, ← len_sg]; omega
    · exact h
  let E : SEnv := [some (.val (.str x)), some (.val (.str (figsOf x))), none]
  have s0 : sAsg 1 (mIf (mT (m2 gEq (mSl (mVar 0) none (some (mC (.int 1)))) (mC (.str "-")))) (mSl (mVar 0) (some (mC (.int 1))) none) (mVar 0)) env = .nx E := asg_of hf
  have hl : mB gLen (mCons (mVar 1) mNil) (hid E) = .ok (.int (figsOf x).length) := mB_of (cons_of (var_of rfl) rfl) (if_pos (decide_eq_true (by omega)))
  have hc : mComp (mItems strOf (mVar 1)) 2 mYes (m2 gInS (mVar 2) (mC (.str "0123456789"))) (hid E) = .ok (.list (((sg (figsOf x)).map fun c => decide (c ∈ sg figs)).map .bool)) := by
    have hi : mItems strOf (mVar 1) (hid E) = .ok ((sg (figsOf x)).map fun c => PyData.str ⟨#[c]⟩) := rfl
    rw [comp_of (h := fun d => match d with | .str y => .bool (decide (y.cps.toList.headD 0 ∈ sg figs)) | _ => .none) hi (decide_eq_true (by rw [List.length_map, ← len_sg]; omega)) fun d hd => ?_]
    · rw [List.map_map, List.map_map]
      rfl
    · obtain ⟨c, _, rfl⟩ := List.mem_map.mp hd
      exact m2_of (var_of rfl) rfl rfl
  have h3 : mB gAll (mCons (mComp (mItems strOf (mVar 1)) 2 mYes (m2 gInS (mVar 2) (mC (.str "0123456789")))) mNil) (hid E) = .ok (.bool (((sg (figsOf x)).map fun c => decide (c ∈ sg figs)).all id)) := all_of (cons_of hc rfl)
  have hn : mAndV (mChain gLe gLe (mC (.int 1)) (mB gLen (mCons (mVar 1) mNil)) (mC (.int 10))) (mB gAll (mCons (mComp (mItems strOf (mVar 1)) 2 mYes (m2 gInS (mVar 2) (mC (.str "0123456789")))) mNil)) (hid E) = .ok (.bool (figOk (figsOf x))) := by
    have h := andV_of (chain_of (E := hid E) (g := gLe) (g' := gLe) (x := decide (1 ≤ (figsOf x).length)) (y := decide ((figsOf x).length ≤ 10)) (a := mC (.int 1)) (c := mC (.int 10)) rfl hl (by
      show some (PyData.bool (decide ((1 : Int) ≤ ((figsOf x).length : Int)))) = _
      congr 2
      exact decide_eq_decide.mpr (by omega)) rfl (by
      show some (PyData.bool (decide (((figsOf x).length : Int) ≤ 10))) = _
      congr 2
      exact decide_eq_decide.mpr (by omega))) fun _ => h3
    rw [List.all_map, Bool.and_assoc] at h
    exact h
  have hg := (call1 hn).trans (need_tx (figOk (figsOf x)))
  show outR (m_number_in env) = _
  unfold m_number_in
  rw [seq_nx s0]
  cases hb : figOk (figsOf x) with
  | true =>
    rw [hb, if_pos rfl] at hg
    rw [seq_nx (expr_of hg), if_pos rfl]
  | false =>
    rw [hb, if_neg Bool.false_ne_true] at hg
    rw [seq_exc (expr_exc hg), if_neg Bool.false_ne_true]
    rfl
theorem figs_cases (x : Str) : sg x = sg (figsOf x) ∨ sg x = 45 :: sg (figsOf x) := by
  unfold figsOf
  by_cases hx : L2.cutS x none (some 1) = "-"
  · rw [if_pos hx]
    have e := congrArg sg hx
    rw [sg_to1, show sg ("-" : Str) = [45] by decide +kernel] at e
    rw [sg_from1]
    cases hh : sg x with
    | nil => rw [hh] at e; cases e
    | cons c r =>
      rw [hh] at e
      have : c = 45 := (List.cons.inj e).1
      subst this
      exact .inr rfl
  · rw [if_neg hx]
    exact .inl rfl
theorem int_ret {x f : Str} {n : Int} (h : PySem.intText? x = some n) (hl : x.length ≤ 640) : outR (sRet (mB gIntS (mCons (mVar 0) mNil)) [some (.val (.str x)), some (.val (.str f)), none]) = .ok (.int n) := by
  rw [ret_of (d := .int n) (mB_of (cons_of (var_of rfl) rfl) (by
    show (if decide (x.length ≤ 640) = true then (PySem.intText? x).map PyData.int else none) = _
    rw [decide_eq_true hl, if_pos rfl, h]
    rfl))]
  rfl
/-- any text: a number or a refusal -/
theorem number_any (x : Str) (h : x.length ≤ 100000) : g_number_in [.str x] = .exc .text ∨ ∃ n, g_number_in [.str x] = .ok (.int n) := by
  rw [number_in_m x h]
  cases hb : figOk (figsOf x) with
  | false => exact .inl (if_neg Bool.false_ne_true)
  | true =>
    obtain ⟨h1, h2, h3⟩ := figOk_iff.mp hb
    obtain ⟨n, hn⟩ := text_num h3 h1 h2 (figs_cases x)
    refine .inr ⟨n, (if_pos rfl).trans (int_ret hn ?_)⟩
    rw [len_sg]
    rcases figs_cases x with e | e
    · rw [e, ← len_sg]; omega
    · rw [e, List.length_cons, ← len_sg]; omega
theorem numT_len {v : Int} (h : v.natAbs < 10 ^ 10) : (num v).length ≤ 11 := by
  obtain ⟨f, _, _, h3, _, h5⟩ := num_text h
  rw [len_sg]
  rcases h5 with e | e
  · rw [e, ← len_sg]; omega
  · rw [e, List.length_cons, ← len_sg]; omega
/-- a number's text is read as that number -/
theorem number_of {v : Int} (h : v.natAbs < 10 ^ 10) : g_number_in [.str (num v)] = .ok (.int v) := by
  have l := numT_len h
  obtain ⟨f, h1, h2, h3, h4, h5⟩ := num_text h
  have e : figsOf (num v) = f := by
    have hd : ("-" : Str) = one 45 := by decide +kernel
    apply sg_inj
    unfold figsOf
    rcases h5 with e | e
    · have ne : L2.cutS (num v) none (some 1) ≠ "-" := fun z => by
        have z := congrArg sg z
        rw [sg_to1, e, hd] at z
        cases hf : sg f with
        | nil => rw [hf] at z; cases z
        | cons c r =>
          rw [hf] at z
          have hc : c = 45 := (List.cons.inj z).1
          have := h1 c (by rw [hf]; exact List.mem_cons_self)
          omega
      rw [if_neg ne, e]
    · have eq : L2.cutS (num v) none (some 1) = "-" := sg_inj (by rw [sg_to1, e, hd]; rfl)
      rw [if_pos eq, sg_from1, e]
      rfl
  rw [number_in_m _ (by omega), e, figOk_iff.mpr ⟨h2, h3, h1⟩, if_pos rfl]
  exact int_ret h4 (by omega)
end K70
namespace K70
open PySem IL
/-! ### plain: states as texts -/
def valOf (es : Sts) (p : Pth) : Int := ((es.find? fun e => decide (e.1 = p)).map (·.2)).getD 0
def rowTx (e : Pth × Int) : Str := pathTx e.1 ++ " " ++ num e.2
def srt (es : Sts) : Sts := (sortP (keys es)).map fun p => (p, valOf es p)
def stTx (es : Sts) : Str := Str.join (one 10) ((srt es).map rowTx)
/-- a state of few places -/
structure Fine (es : Sts) : Prop where
  big : BigS es
  st : stateB es = true
  len : es.length ≤ 20000
theorem Fine.one (f : Fine es) {e : Pth × Int} (h : e ∈ es) : pathB e.1 = true ∧ e.1 ≠ [] ∧ e.2.natAbs ≤ 1000000000 ∧ upB (keys es) e.1 = false := by
  have z := List.all_eq_true.mp f.st e h
  unfold oneB at z
  simp only [Bool.and_eq_true, Bool.not_eq_true', decide_eq_true_eq] at z
  refine ⟨z.1.1.1, fun q => ?_, z.1.2, z.2⟩
  have := z.1.1.2
  rw [q] at this
  cases this
theorem val_is {es : Sts} (nd : (keys es).Nodup) {p : Pth} {v : Int} (h : (p, v) ∈ es) : valOf es p = v := by
  have e := val_mem nd h
  rw [valT_st] at e
  unfold valOf
  cases hf : es.find? (fun e => decide (e.1 = p)) with
  | none => rw [hf] at e; cases e
  | some x =>
    rw [hf] at e
    have : PyData.int x.2 = .int v := Option.some.inj e
    injection this
theorem key_ex {es : Sts} (nd : (keys es).Nodup) {p : Pth} (h : p ∈ keys es) : (p, valOf es p) ∈ es := by
  obtain ⟨⟨q, v⟩, he, e⟩ := List.mem_map.mp h
  have e : q = p := e
  subst e
  rw [val_is nd he]
  exact he
theorem paths_of : ∀ {es : Sts}, (∀ e ∈ es, e.1 ≠ []) → pathsOf (stE es) = some (keys es)
  | [], _ => rfl
  | e :: r, h => by
    show (strL (e.1.map PyData.str)).bind (fun k => if k.isEmpty = true then none else (pathsOf (stE r)).map (k :: ·)) = _
    rw [strL_map]
    show (if e.1.isEmpty = true then none else (pathsOf (stE r)).map (e.1 :: ·)) = _
    have : e.1.isEmpty = false := by
      cases hh : e.1 with
      | nil => exact absurd hh (h e List.mem_cons_self)
      | cons a b => rfl
    rw [this, if_neg Bool.false_ne_true, paths_of fun x hx => h x (List.mem_cons_of_mem _ hx)]
    rfl
theorem len_one (k : Nat) : (one k).length = 1 := rfl
theorem row_len {e : Pth × Int} (h : smallP e.1) (hv : e.2.natAbs ≤ 1000000000) : (rowTx e).length ≤ 40 := by
  unfold rowTx
  rw [len_app, len_app, sp_one, len_one]
  have := pathTx_len h
  have := numT_len (v := e.2) (by omega)
  omega
def rowsM (gp : List D → Res D) : Ev := (mM1 gJoin (mC (.str "\n")) (mComp (mItems lstOf (mB gSortT (mCons (mVar 0) mNil))) 1 mYes (m2 gAdd (m2 gAdd (mCallN 1 gp (mCons (mVar 1) mNil)) (mC (.str " "))) (mB gStrI (mCons (m2 gDGet (mVar 0) (mVar 1)) mNil)))))
theorem add_strs {x y : Str} (h : x.length + y.length ≤ 1000000) : gAdd (.str x) (.str y) = some (.str (x ++ y)) := by
  show (if big (x.length + y.length) = true then some (PyData.str (x ++ y)) else none) = _
  rw [if_pos (show big (x.length + y.length) = true from decide_eq_true h)]
theorem strI_of {v : Int} (h : v.natAbs ≤ 1000000000) : gStrI [.int v] = some (.str (num v)) := by
  show (if decide (v.natAbs.log2 < 1920) = true then some (PyData.str (num v)) else none) = _
  rw [if_pos]
  refine decide_eq_true ?_
  by_cases h0 : v.natAbs = 0
  · rw [h0]; decide
  · exact (Nat.log2_lt h0).mpr (Nat.lt_of_le_of_lt h (Nat.lt_of_lt_of_le (show 1000000000 < 2 ^ 30 by decide) (Nat.pow_le_pow_right (by decide) (by decide))))
theorem rows_of {es : Sts} (f : Fine es) {gp : List D → Res D} (hgp : ∀ p, smallP p → gp [pathD p] = .ok (.str (pathTx p))) : rowsM gp [some (stD es), none] = .ok (.str (stTx es)) := by
  have nd := f.big.nd
  have hs : mItems lstOf (mB gSortT (mCons (mVar 0) mNil)) [some (stD es), none] = .ok ((sortP (keys es)).map pathD) := by
    have e : mB gSortT (mCons (mVar 0) mNil) [some (stD es), none] = .ok (.list ((sortP (keys es)).map pathD)) := mB_of (cons_of (var_of rfl) rfl) (by
      show (pathsOf (stE es)).bind (fun ks => if big ks.length = true then some (PyData.list ((sortP ks).map pathD)) else none) = _
      rw [paths_of fun e he => (f.one he).2.1]
      show (if big (keys es).length = true then some (PyData.list ((sortP (keys es)).map pathD)) else none) = _
      rw [if_pos (show big (keys es).length = true from decide_eq_true (by have := f.len; unfold keys; rw [List.length_map]; omega))])
    unfold mItems
    rw [e]
    rfl
  have sl : (sortP (keys es)).length = es.length := by rw [(sortP_perm _).length_eq]; unfold keys; rw [List.length_map]
  let hh : D → D := fun d => match d with
    | .tuple ks => (match strL ks with | some p => .str (rowTx (p, valOf es p)) | none => .none)
    | _ => .none
  have hhp : ∀ p : Pth, hh (pathD p) = .str (rowTx (p, valOf es p)) := fun p => by
    show (match strL (p.map PyData.str) with | some p => PyData.str (rowTx (p, valOf es p)) | none => .none) = _
    rw [strL_map]
  have hc := comp_of (j := 1) (f := m2 gAdd (m2 gAdd (mCallN 1 gp (mCons (mVar 1) mNil)) (mC (.str " "))) (mB gStrI (mCons (m2 gDGet (mVar 0) (mVar 1)) mNil))) (h := hh) hs (decide_eq_true (by rw [List.length_map, sl]; have := f.len; omega)) (fun d hd => by
    obtain ⟨p, hp, rfl⟩ := List.mem_map.mp hd
    have hp : p ∈ keys es := (sortP_perm _).mem_iff.mp hp
    have he := key_ex nd hp
    obtain ⟨h1, h2, h3, _⟩ := f.one he
    rw [hhp]
    have sm : smallP p := small_of h1
    have l1 := pathTx_len sm
    have l2 := numT_len (v := valOf es p) (by have : (valOf es p).natAbs ≤ 1000000000 := h3; omega)
    exact m2_of (m2_of ((call1 (var_of rfl)).trans (hgp p sm)) rfl (add_strs (by rw [sp_one, len_one]; omega))) (mB_of (cons_of (m2_of (var_of rfl) (var_of rfl) (dget_of nd he)) rfl) (strI_of h3)) (add_strs (by rw [len_app, sp_one, len_one]; omega)))
  have e2 : ((sortP (keys es)).map pathD).map hh = ((srt es).map rowTx).map .str := by
    unfold srt
    rw [List.map_map, List.map_map, List.map_map]
    exact List.map_congr_left fun p _ => hhp p
  rw [e2] at hc
  have ok : joinOk "\n" ((srt es).map rowTx) = true := joinOk_of (B := 40) (fun x hx => by
    obtain ⟨e, he, rfl⟩ := List.mem_map.mp hx
    obtain ⟨p, hp, rfl⟩ := List.mem_map.mp he
    have he := key_ex nd ((sortP_perm _).mem_iff.mp hp)
    obtain ⟨h1, _, h3, _⟩ := f.one he
    exact row_len (small_of h1) h3) (by
    unfold srt
    rw [List.length_map, List.length_map, sl, nl_one, len_one]
    have := f.len
    omega)
  have r := mM1_of (g := gJoin) (a := mC (.str "\n")) (x := "\n") rfl hc (gJoin_of ok)
  unfold stTx
  rw [← nl_one]
  exact r
theorem state_text_of {es : Sts} (f : Fine es) : g_state_text [stD es] = .ok (.str (stTx es)) := by
  let env : SEnv := [some (.val (stD es)), none]
  have s0 : sExpr (mCallN 1 g_need_state (mCons (mVar 0) mNil)) env = .nx env := expr_of ((call1 (var_of rfl)).trans (need_state_of f.big f.st))
  show outR (mSeq (sExpr (mCallN 1 g_need_state (mCons (mVar 0) mNil))) (sRet (rowsM g_path_text)) env) = _
  rw [seq_nx s0, ret_of (rows_of f path_text_of)]
  rfl
theorem law_state_text_of {es : Sts} (f : Fine es) : g_law_state_text [stD es] = .ok (.str (stTx es)) := by
  show outR (sRet (rowsM g_law_path_text) [some (.val (stD es)), none]) = _
  rw [ret_of (rows_of f law_path_text_of)]
  rfl
/-! the law's own is_state -/
def liT : IL.Env → Res Bool := (mOr (mNot (mT (mChain gLe gLe (mC (.int 1)) (mB gLen (mCons (mVar 1) mNil)) (mC (.int 4))))) (mT (m2 gGt (mB gAbs (mCons (m2 gDGet (mVar 0) (mVar 1)) mNil)) (mC (.int 1000000000)))))
def liBody : Sv := mSeq (sIf liT (sRet (mC (.bool false))) mSkip) (sIf stT2 (sRet (mC (.bool false))) mSkip)
theorem law_is_state_of {es : Sts} (f : Fine es) : g_law_is_state [stD es] = .ok (.bool true) := by
  let env : SEnv := [some (.val (stD es)), none, none]
  obtain ⟨h1, _⟩ := loop_P (f := fun e : Pth × Int => pathD e.1) (i := 1) (b := liBody) (I := fun e => Has e 0 (.val (stD es)) ∧ e.length = 3) (P := fun _ => true) (l := es) (fun ⟨p, v⟩ hp e ⟨he, hl⟩ => by
    obtain ⟨q1, q2, q3, q4⟩ := f.one hp
    have v0 : Has (e.set 1 (some (.val (pathD p)))) 0 (.val (stD es)) := he.ne (by decide)
    have v1 : Has (e.set 1 (some (.val (pathD p)))) 1 (.val (pathD p)) := has_set (by omega)
    have l3 : (e.set 1 (some (.val (pathD p)))).length = 3 := by rw [List.length_set]; exact hl
    have pl : 1 ≤ p.length ∧ p.length ≤ 4 := ⟨List.length_pos_iff.mpr q2, (small_of q1).1⟩
    have t1 : liT (vis (e.set 1 (some (.val (pathD p))))) = .ok false := by
      refine or_of (x := false) (y := false) (not_of (x := true) (mT_of (chain_of (x := true) (y := true) (g := gLe) (g' := gLe) rfl (len_path (vis_of v1)) ?_ rfl ?_))) fun _ => mT_of (m2_of (mB_of (cons_of (m2_of (var_of (vis_of v0)) (var_of (vis_of v1)) (dget_of f.big.nd hp)) rfl) (z := .int (if v < 0 then -v else v)) rfl) rfl ?_)
      · show some (PyData.bool (decide ((1 : Int) ≤ (p.length : Int)))) = _
        rw [decide_eq_true (by omega)]
      · show some (PyData.bool (decide ((p.length : Int) ≤ 4))) = _
        rw [decide_eq_true (by omega)]
      · show some (PyData.bool (decide ((1000000000 : Int) < (if v < 0 then -v else v)))) = _
        have q3 : v.natAbs ≤ 1000000000 := q3
        rw [decide_eq_false (by split <;> omega)]
    have t2 := stT2_of f.big hp v0 v1 l3
    rw [q4] at t2
    refine ⟨fun _ => ⟨_, ?_, v0, l3⟩, fun z => nomatch z⟩
    unfold liBody
    rw [seq_nx (show sIf liT (sRet (mC (.bool false))) mSkip (e.set 1 (some (.val (pathD p)))) = .nx _ from (if_of t1).trans rfl), if_of t2]
    rfl) env ⟨rfl, rfl⟩
  have e1 : (stE es).map (·.1) = es.map fun e => pathD e.1 := by unfold stE; rw [List.map_map]; rfl
  have fd : sForD 0 1 liBody env = noExcO (forLoop 1 liBody (es.map fun e => pathD e.1) env) := by
    rw [← e1]
    show (if isOb (stD es) = true then Out.stuck else noExcO (forLoop 1 liBody ((stE es).map (·.1)) env)) = _
    rw [st_noOb, if_neg Bool.false_ne_true]
  obtain ⟨e, h3, _⟩ := h1 (List.all_eq_true.mpr fun _ _ => rfl)
  show outR (mSeq (sForD 0 1 liBody) (sRet (mC (.bool true))) env) = _
  rw [seq_nx (fd.trans (by rw [h3]; rfl))]
  rfl
end K70
namespace K70
open PySem IL
/-! ### plain: a state's text is read -/
theorem eq_ints (i j : Int) : gEq (.int i) (.int j) = some (.bool (i == j)) := by
  have h1 : (PyData.int i).plain = true := by rw [PyData.plain]
  have h2 : (PyData.int j).plain = true := by rw [PyData.plain]
  have h3 : decide ((PyData.int j).depth ≤ 60) = true := by rw [PyData.depth]; rfl
  unfold gEq gEqB
  rw [h1, h2, h3, Bool.or_true, if_pos (by rfl), PyData.eqv]
  rfl
def putS (es : Sts) (p : Pth) (v : Int) : Sts := if p ∈ keys es then es.map (fun e => if e.1 = p then (e.1, v) else e) else es ++ [(p, v)]
theorem putS_keys (es : Sts) (p : Pth) (v : Int) : keys (putS es p v) = if p ∈ keys es then keys es else keys es ++ [p] := by
  unfold putS
  split
  · unfold keys
    rw [List.map_map]
    apply List.map_congr_left
    intro e _
    show (if e.1 = p then (e.1, v) else e).1 = e.1
    split <;> rfl
  · unfold keys
    rw [List.map_append]
    rfl
theorem putS_len (es : Sts) (p : Pth) (v : Int) : (putS es p v).length ≤ es.length + 1 := by
  unfold putS
  split
  · rw [List.length_map]; omega
  · rw [List.length_append]; simp
theorem putS_big {es : Sts} (h : BigS es) {p : Pth} (hp : BigP p) (v : Int) : BigS (putS es p v) := by
  refine ⟨?_, fun e he => ?_⟩
  · rw [putS_keys]
    split
    · exact h.nd
    · rename_i n
      refine List.nodup_append.mpr ⟨h.nd, by simp, fun a ha b hb z => ?_⟩
      have hb : b = p := by simpa using hb
      rw [z, hb] at ha
      exact n ha
  · unfold putS at he
    split at he
    · obtain ⟨x, hx, rfl⟩ := List.mem_map.mp he
      split
      · exact h.ps x hx
      · exact h.ps x hx
    · rcases List.mem_append.mp he with he | he
      · exact h.ps e he
      · have : e = (p, v) := by simpa using he
        rw [this]; exact hp
theorem putT_is (es : Sts) (p : Pth) (v : Int) : putT (stE es) (p.map Sum.inr) (.int v) = stE (putS es p v) := by
  unfold putS
  split
  · rename_i h
    unfold putT
    have ha : ((stE es).any fun e => decide (keyT e.1 = some (p.map Sum.inr))) = true := by
      obtain ⟨e, he, hp⟩ := List.mem_map.mp h
      refine List.any_eq_true.mpr ⟨(pathD e.1, .int e.2), List.mem_map.mpr ⟨e, he, rfl⟩, decide_eq_true ?_⟩
      show keyT (pathD e.1) = _
      rw [pathD_keyT, show e.1 = p from hp]
    rw [ha, if_pos rfl]
    unfold stE
    rw [List.map_map, List.map_map]
    apply List.map_congr_left
    intro e _
    show (if keyT (pathD e.1) = some (p.map Sum.inr) then (pathD e.1, PyData.int v) else (pathD e.1, PyData.int e.2)) = (pathD (if e.1 = p then (e.1, v) else e).1, PyData.int (if e.1 = p then (e.1, v) else e).2)
    rw [pathD_keyT]
    by_cases hp : e.1 = p
    · rw [if_pos (by rw [hp]), if_pos hp]
    · rw [if_neg (fun z => hp (inr_inj (Option.some.inj z))), if_neg hp]
  · rename_i h
    exact putT_new h
def rb0 : Sv := (sAsg 3 (mM1 gSplit (mVar 2) (mC (.str " "))))
def rb1 : Sv := (sExpr (mCallN 1 g_need_text (mCons (m2 gEq (mB gLen (mCons (mVar 3) mNil)) (mC (.int 2))) mNil)))
def rb2 : Sv := (sPutT 1 (mCallN 1 g_number_in (mCons (m2 gIx (mVar 3) (mC (.int 1))) mNil)) (mCallN 1 g_path_in (mCons (m2 gIx (mVar 3) (mC (.int 0))) mNil)))
def rbody : Sv := mSeq rb0 (mSeq rb1 rb2)
structure KpI (x : Str) (es : Sts) (env : SEnv) : Prop where
  len : env.length = 4
  txt : Has env 0 (.val (.str x))
  own : Has env 1 (.own (stD es))
theorem row_pre {x r : Str} {es : Sts} {env : SEnv} (k : KpI x es env) (h2 : Has env 2 (.val (.str r))) (hr : r.length ≤ 100000) :
    ((Txt.split r (one 32)).length ≠ 2 → rbody env = .exc .text) ∧ (∀ a b, Txt.split r (one 32) = [a, b] → rbody env = rb2 (env.set 3 (some (.val (.list [.str a, .str b]))))) := by
  have s0 : rb0 env = .nx (env.set 3 (some (.val (.list ((Txt.split r (one 32)).map .str))))) := asg_of (mM1_of (x := r) (var_of (hid_of h2)) rfl (gSplit_of sp_one hr))
  have v3 : Has (env.set 3 (some (.val (.list ((Txt.split r (one 32)).map .str))))) 3 (.val (.list ((Txt.split r (one 32)).map .str))) := has_set (by rw [k.len]; decide)
  have hl : mB gLen (mCons (mVar 3) mNil) (hid (env.set 3 (some (.val (.list ((Txt.split r (one 32)).map .str)))))) = .ok (.int ((Txt.split r (one 32)).map PyData.str).length) := mB_of (cons_of (var_of (hid_of v3)) rfl) rfl
  have hn := (call1 (m2_of (b := mC (.int 2)) hl rfl (eq_ints _ 2))).trans (need_tx _)
  rw [List.length_map] at hn
  refine ⟨fun ne => ?_, fun a b e => ?_⟩
  · rw [beq_false_of_ne (by omega), if_neg Bool.false_ne_true] at hn
    unfold rbody
    rw [seq_nx s0, seq_exc (show rb1 _ = .exc .text from expr_exc hn)]
  · rw [e] at s0 hn
    rw [show (([a, b] : List Str).length : Int) == 2 from rfl, if_pos rfl] at hn
    unfold rbody
    rw [seq_nx s0, seq_nx (show rb1 _ = .nx _ from expr_of hn)]
    rfl
theorem row_put {x a b : Str} {es : Sts} {env : SEnv} (k : KpI x es env) (h3 : Has env 3 (.val (.list [.str a, .str b]))) (ha : a.length ≤ 100000) (hl : es.length ≤ 1000000) {n : Int} (hn : g_number_in [.str b] = .ok (.int n)) : rb2 env = .nx (env.set 1 (some (.own (stD (putS es (pathIn a) n))))) := by
  have i1 : m2 gIx (mVar 3) (mC (.int 1)) (hid env) = .ok (.str b) := m2_of (var_of (hid_of h3)) rfl rfl
  have i0 : m2 gIx (mVar 3) (mC (.int 0)) (hid env) = .ok (.str a) := m2_of (var_of (hid_of h3)) rfl rfl
  show sPutT 1 _ _ env = _
  unfold sPutT
  rw [show env[1]? = some (some (.own (.dict (stE es)))) from k.own]
  dsimp only
  rw [(call1 i1).trans hn]
  show liftR (mCallN 1 g_path_in (mCons (m2 gIx (mVar 3) (mC (.int 0))) mNil) (hid env)) _ = _
  rw [(call1 i0).trans (path_in_of a ha)]
  show (match keyT (pathD (pathIn a)) with | some kk => if tKeys (stE es) && big (stE es).length = true then Out.nx (env.set 1 (some (.own (.dict (putT (stE es) kk (.int n)))))) else .stuck | none => .stuck) = _
  have be : big (stE es).length = true := decide_eq_true (by unfold stE; rw [List.length_map]; exact hl)
  rw [pathD_keyT]
  dsimp only
  rw [tKeys_st, decide_eq_true be, if_pos (by rfl), putT_is]
  rfl
theorem row_bad {x a b : Str} {es : Sts} {env : SEnv} (k : KpI x es env) (h3 : Has env 3 (.val (.list [.str a, .str b]))) (hn : g_number_in [.str b] = .exc .text) : rb2 env = .exc .text := by
  have i1 : m2 gIx (mVar 3) (mC (.int 1)) (hid env) = .ok (.str b) := m2_of (var_of (hid_of h3)) rfl rfl
  show sPutT 1 _ _ env = _
  unfold sPutT
  rw [show env[1]? = some (some (.own (.dict (stE es)))) from k.own]
  dsimp only
  rw [(call1 i1).trans hn]
  rfl
/-- any row -/
theorem row_any {x r : Str} {es : Sts} {env : SEnv} (k : KpI x es env) (h2 : Has env 2 (.val (.str r))) (hr : r.length ≤ 100000) (hl : es.length ≤ 1000000) (hb : BigS es) : rbody env = .exc .text ∨ ∃ e es', rbody env = .nx e ∧ KpI x es' e ∧ BigS es' ∧ es'.length ≤ es.length + 1 := by
  obtain ⟨p1, p2⟩ := row_pre k h2 hr
  match hw : Txt.split r (one 32) with
  | [a, b] =>
    have ha : a.length ≤ 100000 := Nat.le_trans (split_len r 32 a (by rw [hw]; simp)) hr
    have hb' : b.length ≤ 100000 := Nat.le_trans (split_len r 32 b (by rw [hw]; simp)) hr
    rw [p2 a b hw]
    have k3 : KpI x es (env.set 3 (some (.val (.list [.str a, .str b])))) := ⟨by rw [List.length_set]; exact k.len, k.txt.ne (by decide), k.own.ne (by decide)⟩
    have v3 : Has (env.set 3 (some (.val (.list [.str a, .str b])))) 3 (.val (.list [.str a, .str b])) := has_set (by rw [k.len]; decide)
    rcases number_any b hb' with hn | ⟨n, hn⟩
    · exact .inl (row_bad k3 v3 hn)
    · exact .inr ⟨_, putS es (pathIn a) n, row_put k3 v3 ha hl hn, ⟨by rw [List.length_set]; exact k3.len, k3.txt.ne (by decide), has_set (by rw [k3.len]; decide)⟩, putS_big hb (pathIn_big ha) n, putS_len es _ n⟩
  | [] => exact .inl (p1 (by rw [hw]; show 0 ≠ 2; decide))
  | [a] => exact .inl (p1 (by rw [hw]; show 1 ≠ 2; decide))
  | a :: b :: c :: d => exact .inl (p1 (by rw [hw]; simp))
theorem rows_any {x : Str} : ∀ {rs : List Str} {es : Sts} {env : SEnv}, KpI x es env → (∀ r ∈ rs, r.length ≤ 100000) → es.length + rs.length ≤ 1000000 → BigS es →
    forLoop 2 rbody (rs.map .str) env = .exc .text ∨ ∃ e es', forLoop 2 rbody (rs.map .str) env = .nx e ∧ KpI x es' e ∧ BigS es' ∧ es'.length ≤ es.length + rs.length
  | [], es, env, k, _, _, hb => .inr ⟨env, es, rfl, k, hb, by simp⟩
  | r :: rs, es, env, k, hr, hl, hb => by
    rw [List.length_cons] at hl
    have k2 : KpI x es (env.set 2 (some (.val (.str r)))) := ⟨by rw [List.length_set]; exact k.len, k.txt.ne (by decide), k.own.ne (by decide)⟩
    have v2 : Has (env.set 2 (some (.val (.str r)))) 2 (.val (.str r)) := has_set (by rw [k.len]; decide)
    show forLoop 2 rbody (.str r :: rs.map .str) env = _ ∨ _
    rcases row_any k2 v2 (hr r List.mem_cons_self) (by omega) hb with h | ⟨e, es', h1, h2, h3, h4⟩
    · exact .inl (by unfold forLoop; rw [h])
    · rcases rows_any (rs := rs) h2 (fun z hz => hr z (List.mem_cons_of_mem _ hz)) (by omega) h3 with h5 | ⟨e2, es2, h5, h6, h7, h8⟩
      · exact .inl (by unfold forLoop; rw [h1]; exact h5)
      · refine .inr ⟨e2, es2, ?_, h6, h7, by rw [List.length_cons]; omega⟩
        show forLoop 2 rbody (.str r :: rs.map .str) env = _
        unfold forLoop
        rw [h1]
        exact h5
def rowsOf (x : Str) : List Str := if x = "" then [] else Txt.split x (one 10)
def rowsIt : IL.Env → Res (List D) := (mItems lstOf (mIf (mT (m2 gNe (mVar 0) (mC (.str "")))) (mM1 gSplit (mVar 0) (mC (.str "\n"))) (mB gLst mNil)))
theorem rowsIt_of {x : Str} {E : IL.Env} (h : E[0]? = some (some (.str x))) (hx : x.length ≤ 100000) : rowsIt E = .ok ((rowsOf x).map .str) := by
  have t : mT (m2 gNe (mVar 0) (mC (.str ""))) E = .ok (!(x == "")) := mT_of (m2_of (var_of h) rfl (ne_strs x ""))
  unfold rowsIt mItems rowsOf
  by_cases hh : x = ""
  · rw [if_pos hh, mif_f (t.trans (by rw [hh, beq_self_eq_true]; rfl))]
    rfl
  · rw [if_neg hh, mif_t (t.trans (by rw [beq_false_of_ne hh]; rfl)), mM1_of (x := x) (var_of h) rfl (gSplit_of nl_one hx)]
    rfl
def endT : Ev := (mCallN 1 g_need_text (mCons (mAndV (mCallN 1 g_is_state (mCons (mVar 1) mNil)) (m2 gEq (mCallN 1 g_state_text (mCons (mVar 1) mNil)) (mVar 0))) mNil))
theorem endT_of {x : Str} {es : Sts} {env : SEnv} (k : KpI x es env) (hb : BigS es) (hl : es.length ≤ 20000) : endT (vis env) = if stateB es = true ∧ stTx es = x then .ok .none else .exc .text := by
  have v0 := vis_of k.txt
  have v1 : (vis env)[1]? = some (some (stD es)) := by rw [vis_own k.own, strip_st]
  have h : mAndV (mCallN 1 g_is_state (mCons (mVar 1) mNil)) (m2 gEq (mCallN 1 g_state_text (mCons (mVar 1) mNil)) (mVar 0)) (vis env) = .ok (.bool (stateB es && (stTx es == x))) :=
    andV_of ((call1 (var_of v1)).trans (is_state_of hb)) fun hs => m2_of ((call1 (var_of v1)).trans (state_text_of ⟨hb, hs, hl⟩)) (var_of v0) (eq_strs _ _)
  unfold endT
  rw [(call1 h).trans (need_tx _)]
  by_cases hh : stateB es = true ∧ stTx es = x
  · rw [if_pos hh, hh.1, hh.2, beq_self_eq_true]; rfl
  · rw [if_neg hh, if_neg]
    rw [Bool.and_eq_true]
    exact fun z => hh ⟨z.1, by simpa using z.2⟩
theorem is_str_tx {x : Str} {E : IL.Env} (h : E[0]? = some (some (.str x))) : (mCallN 1 g_need_text (mCons (m1 (gIsi "str") (mVar 0)) mNil)) E = .ok .none := (call1 (m1_of (g := gIsi "str") (var_of h) (z := .bool true) rfl)).trans (need_tx true)
theorem state_in_eq (x : Str) : g_state_in [.str x] = outR (mSeq (sExpr (mCallN 1 g_need_text (mCons (m1 (gIsi "str") (mVar 0)) mNil))) (mSeq (sOwnD 1) (mSeq (sFor rowsIt 2 rbody) (mSeq (sExprV endT) (sRet (mVar 1))))) [some (.val (.str x)), none, none, none]) := rfl
theorem state_in_go {x : Str} (hx : x.length ≤ 100000) {es : Sts} {e : SEnv} (hf : forLoop 2 rbody ((rowsOf x).map .str) [some (.val (.str x)), some (.own (stD [])), none, none] = .nx e) (k : KpI x es e) (hb : BigS es) (hl : es.length ≤ 20000) :
    g_state_in [.str x] = if stateB es = true ∧ stTx es = x then .ok (stD es) else .exc .text := by
  let env : SEnv := [some (.val (.str x)), none, none, none]
  let env1 : SEnv := [some (.val (.str x)), some (.own (stD [])), none, none]
  have s0 : sExpr (mCallN 1 g_need_text (mCons (m1 (gIsi "str") (mVar 0)) mNil)) env = .nx env := expr_of (is_str_tx rfl)
  have s1 : sOwnD 1 env = .nx env1 := rfl
  have s2 : sFor rowsIt 2 rbody env1 = .nx e := (for_of (rowsIt_of (E := hid env1) rfl hx)).trans hf
  have h3 := endT_of k hb hl
  rw [state_in_eq, seq_nx s0, seq_nx s1, seq_nx s2]
  by_cases hh : stateB es = true ∧ stTx es = x
  · rw [if_pos hh] at h3 ⊢
    have s3 : sExprV endT e = .nx e := by unfold sExprV; rw [h3]; rfl
    rw [seq_nx s3, ret_of (var_of (vis_own k.own)), strip_st]
    rfl
  · rw [if_neg hh] at h3 ⊢
    have s3 : sExprV endT e = .exc .text := by unfold sExprV; rw [h3]; rfl
    rw [seq_exc s3]
    rfl
/-- any text: refused, or a state whose text it is -/
theorem state_in_any (x : Str) (hx : x.length ≤ 19000) : g_state_in [.str x] = .exc .text ∨ ∃ es, g_state_in [.str x] = .ok (stD es) ∧ Fine es ∧ stTx es = x := by
  have hr : ∀ r ∈ rowsOf x, r.length ≤ 100000 := fun r hr => by
    unfold rowsOf at hr
    split at hr
    · cases hr
    · have := split_len x 10 r hr; omega
  have hn : (rowsOf x).length ≤ 19001 := by
    unfold rowsOf
    split
    · simp
    · have := split_many x 10; omega
  have k0 : KpI x [] [some (.val (.str x)), some (.own (stD [])), none, none] := ⟨rfl, rfl, rfl⟩
  rcases rows_any k0 hr (by simp; omega) ⟨List.nodup_nil, fun e h => nomatch h⟩ with h | ⟨e, es, h1, h2, h3, h4⟩
  · left
    let env : SEnv := [some (.val (.str x)), none, none, none]
    let env1 : SEnv := [some (.val (.str x)), some (.own (stD [])), none, none]
    have s0 : sExpr (mCallN 1 g_need_text (mCons (m1 (gIsi "str") (mVar 0)) mNil)) env = .nx env := expr_of (is_str_tx rfl)
    have s1 : sOwnD 1 env = .nx env1 := rfl
    have s2 : sFor rowsIt 2 rbody env1 = .exc .text := (for_of (rowsIt_of (E := hid env1) rfl (by omega))).trans h
    rw [state_in_eq, seq_nx s0, seq_nx s1, seq_exc s2]
    rfl
  · have hl : es.length ≤ 20000 := by simp at h4; omega
    have hg := state_in_go (by omega) h1 h2 h3 hl
    by_cases hh : stateB es = true ∧ stTx es = x
    · rw [if_pos hh] at hg
      exact .inr ⟨es, hg, ⟨h3, hh.1, hl⟩, hh.2⟩
    · rw [if_neg hh] at hg
      exact .inl hg
end K70
namespace K70
open PySem IL
/-! ### plain: a state's own text is read as that state -/
theorem rowTx_split {p : Pth} {v : Int} (h : pathB p = true) : Txt.split (rowTx (p, v)) (one 32) = [pathTx p, num v] := by
  unfold rowTx
  rw [sp_one, split_app, split_one (pathTx_free h 32 ⟨.inl (by decide), by decide⟩), split_one (num_free 32 ⟨by decide, .inl (by decide)⟩ v)]
  rfl
theorem rowTx_free {p : Pth} {v : Int} (h : pathB p = true) : 10 ∉ sg (rowTx (p, v)) := by
  unfold rowTx
  rw [sg_app, sg_app, sp_one]
  intro z
  rcases List.mem_append.mp z with z | z
  · rcases List.mem_append.mp z with z | z
    · exact pathTx_free h 10 ⟨.inl (by decide), by decide⟩ z
    · revert z; show ¬ 10 ∈ [32]; decide
  · exact num_free 10 ⟨by decide, .inl (by decide)⟩ v z
theorem rowTx_pos (e : Pth × Int) : 1 ≤ (rowTx e).length := by
  unfold rowTx
  rw [len_app, len_app, sp_one, len_one]
  omega
theorem rows_exact {x : Str} : ∀ {l es : Sts} {env : SEnv}, KpI x es env → (∀ e ∈ l, pathB e.1 = true ∧ e.2.natAbs ≤ 1000000000) → (keys (es ++ l)).Nodup → es.length + l.length ≤ 1000000 →
    ∃ e, forLoop 2 rbody ((l.map rowTx).map .str) env = .nx e ∧ KpI x (es ++ l) e
  | [], es, env, k, _, _, _ => ⟨env, rfl, by rw [List.append_nil]; exact k⟩
  | (p, v) :: l, es, env, k, hp, nd, hl => by
    rw [List.length_cons] at hl
    obtain ⟨h1, h2⟩ := hp (p, v) List.mem_cons_self
    have h1 : pathB p = true := h1
    have h2 : v.natAbs ≤ 1000000000 := h2
    have k2 : KpI x es (env.set 2 (some (.val (.str (rowTx (p, v)))))) := ⟨by rw [List.length_set]; exact k.len, k.txt.ne (by decide), k.own.ne (by decide)⟩
    have v2 : Has (env.set 2 (some (.val (.str (rowTx (p, v)))))) 2 (.val (.str (rowTx (p, v)))) := has_set (by rw [k.len]; decide)
    have hr := row_len (e := (p, v)) (small_of h1) h2
    have hs := (row_pre k2 v2 (by omega)).2 _ _ (rowTx_split (v := v) h1)
    generalize hE : env.set 2 (some (.val (.str (rowTx (p, v))))) = e2 at k2 v2 hs
    have k3 : KpI x es (e2.set 3 (some (.val (.list [.str (pathTx p), .str (num v)])))) := ⟨by rw [List.length_set]; exact k2.len, k2.txt.ne (by decide), k2.own.ne (by decide)⟩
    have v3 : Has (e2.set 3 (some (.val (.list [.str (pathTx p), .str (num v)])))) 3 (.val (.list [.str (pathTx p), .str (num v)])) := has_set (by rw [k2.len]; decide)
    have hput := row_put k3 v3 (by have := pathTx_len (small_of h1); omega) (by omega) (number_of (v := v) (by omega))
    have np : p ∉ keys es := fun hm => by
      unfold keys at nd hm
      rw [List.map_append] at nd
      exact (List.nodup_append.mp nd).2.2 p hm p List.mem_cons_self rfl
    have ep : putS es (pathIn (pathTx p)) v = es ++ [(p, v)] := by
      rw [pathIn_tx h1]
      unfold putS
      rw [if_neg np]
    rw [ep] at hput
    have k4 : KpI x (es ++ [(p, v)]) ((e2.set 3 (some (.val (.list [.str (pathTx p), .str (num v)])))).set 1 (some (.own (stD (es ++ [(p, v)]))))) := ⟨by rw [List.length_set]; exact k3.len, k3.txt.ne (by decide), has_set (by rw [k3.len]; decide)⟩
    obtain ⟨e, h5, h6⟩ := rows_exact (l := l) k4 (fun z hz => hp z (List.mem_cons_of_mem _ hz)) (by rw [List.append_assoc]; exact nd) (by rw [List.length_append]; simp; omega)
    refine ⟨e, ?_, by rw [List.append_assoc] at h6; exact h6⟩
    show forLoop 2 rbody (.str (rowTx (p, v)) :: (l.map rowTx).map .str) env = _
    unfold forLoop
    rw [hE, hs, hput]
    exact h5
theorem srt_keys (es : Sts) : keys (srt es) = sortP (keys es) := by
  unfold keys srt
  rw [List.map_map]
  exact List.map_id' _
theorem srt_mem {es : Sts} (nd : (keys es).Nodup) {e : Pth × Int} (h : e ∈ srt es) : e ∈ es := by
  obtain ⟨p, hp, rfl⟩ := List.mem_map.mp h
  exact key_ex nd ((sortP_perm _).mem_iff.mp hp)
theorem srt_len (es : Sts) : (srt es).length = es.length := by
  unfold srt
  rw [List.length_map, (sortP_perm _).length_eq]
  unfold keys
  rw [List.length_map]
theorem srt_nd {es : Sts} (nd : (keys es).Nodup) : (keys (srt es)).Nodup := by
  rw [srt_keys]
  exact (sortP_perm _).nodup_iff.mpr nd
theorem oneB_perm {ks ls : List Pth} (h : ∀ p, p ∈ ks ↔ p ∈ ls) (e : Pth × Int) : oneB ks e = oneB ls e := by
  have hu : upB ks e.1 = upB ls e.1 := by
    unfold upB
    congr 1
    apply List.map_congr_left
    intro k _
    exact decide_eq_decide.mpr (h _)
  unfold oneB
  rw [hu]
theorem srt_fine {es : Sts} (f : Fine es) : Fine (srt es) where
  big := ⟨srt_nd f.big.nd, fun e he => f.big.ps e (srt_mem f.big.nd he)⟩
  st := List.all_eq_true.mpr fun e he => by
    rw [oneB_perm (ls := keys es) (fun p => by rw [srt_keys]; exact (sortP_perm _).mem_iff)]
    exact List.all_eq_true.mp f.st e (srt_mem f.big.nd he)
  len := by rw [srt_len]; exact f.len
theorem srt_srt {es : Sts} (nd : (keys es).Nodup) : srt (srt es) = srt es := by
  have e : sortP (keys (srt es)) = keys (srt es) := by
    rw [srt_keys]
    exact sorted_uniq (sortP_perm _) (sortP_sorted _) (sortP_sorted _)
  show (sortP (keys (srt es))).map (fun p => (p, valOf (srt es) p)) = srt es
  rw [e]
  unfold keys
  rw [List.map_map]
  have : ∀ x ∈ srt es, ((fun p => (p, valOf (srt es) p)) ∘ fun x : Pth × Int => x.1) x = x := fun x hx => by
    show (x.1, valOf (srt es) x.1) = x
    rw [val_is (srt_nd nd) (p := x.1) (v := x.2) hx]
  rw [List.map_congr_left this]
  exact List.map_id' _
theorem stTx_srt {es : Sts} (nd : (keys es).Nodup) : stTx (srt es) = stTx es := by
  unfold stTx
  rw [srt_srt nd]
theorem stTx_len {es : Sts} (f : Fine es) : (stTx es).length ≤ es.length * 41 := by
  have h := join_len (s := one 10) (B := 40) (ps := (srt es).map rowTx) fun x hx => by
    obtain ⟨e, he, rfl⟩ := List.mem_map.mp hx
    obtain ⟨h1, _, h3, _⟩ := f.one (srt_mem f.big.nd he)
    exact row_len (small_of h1) h3
  rw [List.length_map, srt_len, len_one] at h
  exact h
theorem rowsOf_st {es : Sts} (f : Fine es) : rowsOf (stTx es) = (srt es).map rowTx := by
  unfold rowsOf
  by_cases hn : srt es = []
  · rw [hn]
    have : stTx es = "" := by
      unfold stTx
      rw [hn]
      decide +kernel
    rw [if_pos this]
    rfl
  · have hne : (srt es).map rowTx ≠ [] := fun z => hn (List.map_eq_nil_iff.mp z)
    rw [if_neg]
    · exact split_join hne fun x hx => by
        obtain ⟨e, he, rfl⟩ := List.mem_map.mp hx
        exact rowTx_free (f.one (srt_mem f.big.nd he)).1
    · intro z
      have hs := split_join (c := 10) hne fun x hx => by
        obtain ⟨e, he, rfl⟩ := List.mem_map.mp hx
        exact rowTx_free (f.one (srt_mem f.big.nd he)).1
      rw [show Str.join (one 10) ((srt es).map rowTx) = "" from z] at hs
      have e : Txt.split ("" : Str) (one 10) = [("" : Str)] := by decide +kernel
      rw [e] at hs
      cases hh : srt es with
      | nil => exact hn hh
      | cons a r =>
        rw [hh] at hs
        have := (List.cons.inj hs).1
        have h1 := rowTx_pos a
        rw [← this] at h1
        exact absurd h1 (by decide)
theorem state_in_of {es : Sts} (f : Fine es) (hl : es.length ≤ 400) : g_state_in [.str (stTx es)] = .ok (stD (srt es)) := by
  have fs := srt_fine f
  have k0 : KpI (stTx es) [] [some (.val (.str (stTx es))), some (.own (stD [])), none, none] := ⟨rfl, rfl, rfl⟩
  obtain ⟨e, h1, h2⟩ := rows_exact (l := srt es) k0 (fun z hz => let q := fs.one hz; ⟨q.1, q.2.2.1⟩) fs.big.nd (by rw [srt_len]; simp; omega)
  rw [← rowsOf_st f] at h1
  have tl := stTx_len f
  have hg := state_in_go (x := stTx es) (by omega) h1 h2 fs.big (by rw [List.nil_append, srt_len]; omega)
  rw [List.nil_append, if_pos ⟨fs.st, stTx_srt f.big.nd⟩] at hg
  exact hg
theorem ints_st (es : Sts) : intsT (stE es) = true := by
  refine List.all_eq_true.mpr fun e he => ?_
  obtain ⟨x, _, rfl⟩ := List.mem_map.mp he
  show ((keyT (pathD x.1)).isSome && isI (.int x.2)) = true
  rw [pathD_keyT]
  rfl
theorem srt_eq {es : Sts} (f : Fine es) : gNeDT (stD (srt es)) (stD es) = some (.bool false) := by
  have hb : gEqDB (stD (srt es)) (stD es) = some true := by
    show (if intsT (stE (srt es)) && intsT (stE es) = true then some ((stE (srt es)).length == (stE es).length && (stE (srt es)).all (cmpE (stE es))) else none) = _
    have hl : ((stE (srt es)).length == (stE es).length) = true := by
      unfold stE
      rw [List.length_map, List.length_map, srt_len]
      exact beq_self_eq_true _
    have ha : (stE (srt es)).all (cmpE (stE es)) = true := List.all_eq_true.mpr fun e he => by
      obtain ⟨⟨p, v⟩, hx, rfl⟩ := List.mem_map.mp he
      have := val_mem f.big.nd (srt_mem f.big.nd hx)
      show (match keyT (pathD p) with | some k => (match valT (stE es) k, PyData.int v with | some (.int j), .int i => decide (i = j) | _, _ => false) | none => false) = true
      rw [pathD_keyT]
      dsimp only
      rw [this]
      exact decide_eq_true rfl
    rw [ints_st, ints_st, hl, ha]
    rfl
  unfold gNeDT
  rw [hb]
  rfl
theorem good_fine {es : Sts} (g : Good es) (h : es.length ≤ 20000) : Fine es := ⟨g.big, g.state, h⟩
end K70
namespace K70
open PySem IL
/-! ### plain: terms -/
inductive Tm where
  | num (n : Int) | rd (w : Str) (p : Pth) | look (w : Str) | two (w : Str) (a b : Tm) | when (a b c : Tm)
def tmD : Tm → D
  | .num n => .tuple [.str "num", .int n]
  | .rd w p => .tuple [.str w, pathD p]
  | .look w => .tuple [.str "look", .str w]
  | .two w a b => .tuple [.str w, tmD a, tmD b]
  | .when a b c => .tuple [.str "when", tmD a, tmD b, tmD c]
def Syn : Tm → Prop
  | .num _ => True
  | .rd w p => w ∈ reads ∧ BigP p
  | .look w => w.length ≤ 1000000
  | .two w a b => w ∈ twos ∧ Syn a ∧ Syn b
  | .when a b c => Syn a ∧ Syn b ∧ Syn c
def validB (d : Nat) : Tm → Bool
  | .num n => decide (d < 8) && decide (n.natAbs ≤ 1000000000)
  | .rd _ p => decide (d < 8) && pathB p
  | .look w => decide (d < 8) && wordB w
  | .two _ a b => decide (d < 8) && (validB (d + 1) a && validB (d + 1) b)
  | .when a b c => decide (d < 8) && (validB (d + 1) a && (validB (d + 1) b && validB (d + 1) c))
def okL : Tm → Bool
  | .num n => decide (n.natAbs ≤ 1000000000)
  | .rd _ p => pathB p
  | .look w => wordB w
  | .two _ a b => okL a && okL b
  | .when a b c => okL a && (okL b && okL c)
def ht : Tm → Nat
  | .two _ a b => max (ht a) (ht b) + 1
  | .when a b c => max (ht a) (max (ht b) (ht c)) + 1
  | _ => 0
theorem valid_ok : ∀ {t : Tm} {d : Nat}, validB d t = true → okL t = true ∧ d + ht t < 8
  | .num n, d, h => by unfold validB at h; simp only [Bool.and_eq_true, decide_eq_true_eq] at h; exact ⟨decide_eq_true h.2, h.1⟩
  | .rd w p, d, h => by unfold validB at h; simp only [Bool.and_eq_true, decide_eq_true_eq] at h; exact ⟨h.2, h.1⟩
  | .look w, d, h => by unfold validB at h; simp only [Bool.and_eq_true, decide_eq_true_eq] at h; exact ⟨h.2, h.1⟩
  | .two w a b, d, h => by
    unfold validB at h
    simp only [Bool.and_eq_true, decide_eq_true_eq] at h
    obtain ⟨a1, a2⟩ := valid_ok h.2.1
    obtain ⟨b1, b2⟩ := valid_ok h.2.2
    unfold okL ht
    rw [a1, b1]
    exact ⟨rfl, by omega⟩
  | .when a b c, d, h => by
    unfold validB at h
    simp only [Bool.and_eq_true, decide_eq_true_eq] at h
    obtain ⟨a1, a2⟩ := valid_ok h.2.1
    obtain ⟨b1, b2⟩ := valid_ok h.2.2.1
    obtain ⟨c1, c2⟩ := valid_ok h.2.2.2
    unfold okL ht
    rw [a1, b1, c1]
    exact ⟨rfl, by omega⟩
theorem ok_valid : ∀ {t : Tm} {d : Nat}, okL t = true → d + ht t < 8 → validB d t = true
  | .num n, d, h, l => by unfold validB; rw [decide_eq_true (show d < 8 from l), show decide (n.natAbs ≤ 1000000000) = true from h]; rfl
  | .rd w p, d, h, l => by unfold validB; rw [decide_eq_true (show d < 8 from l), show pathB p = true from h]; rfl
  | .look w, d, h, l => by unfold validB; rw [decide_eq_true (show d < 8 from l), show wordB w = true from h]; rfl
  | .two w a b, d, h, l => by
    unfold okL at h
    unfold ht at l
    rw [Bool.and_eq_true] at h
    unfold validB
    rw [ok_valid h.1 (by omega), ok_valid h.2 (by omega), decide_eq_true (by omega)]
    rfl
  | .when a b c, d, h, l => by
    unfold okL at h
    unfold ht at l
    rw [Bool.and_eq_true, Bool.and_eq_true] at h
    unfold validB
    rw [ok_valid h.1 (by omega), ok_valid h.2.1 (by omega), ok_valid h.2.2 (by omega), decide_eq_true (by omega)]
    rfl
/-! a term is let by, or not -/
theorem need_lk (b : Bool) : g_need [.bool b] = if b = true then .ok .none else .exc .look := by cases b <;> rfl
theorem inT_str (zs : List Str) (x : Str) : gInT zs (.str x) = some (.bool (decide (x ∈ zs))) := by
  show some (PyData.bool (L2.inV (.str x) (zs.map L2.V.str))) = _
  have h : L2.inV (.str x) (zs.map L2.V.str) = decide (x ∈ zs) := by
    unfold L2.inV
    rw [List.any_map, Bool.eq_iff_iff, List.any_eq_true, decide_eq_true_iff]
    constructor
    · rintro ⟨y, a, b⟩
      exact (eq_of_beq (show (y == x) = true from b)) ▸ a
    · intro a
      exact ⟨x, a, show (x == x) = true from beq_self_eq_true x⟩
  rw [h]
theorem ix0 (x : D) (r : List D) : gIx (.tuple (x :: r)) (.int 0) = some x := L2.atI_nat (j := 0) (v := x) rfl
def nd0 : Ev := (mCallN 1 g_need (mCons (mAndV (m1 (gIsi "tuple") (mVar 0)) (mAndV (m2 gGt (mB gLen (mCons (mVar 0) mNil)) (mC (.int 1))) (mAndV (m1 (gIsi "str") (m2 gIx (mVar 0) (mC (.int 0)))) (m2 gLt (mVar 1) (mC (.int 8)))))) mNil))
theorem nd0_of {w : Str} {x : D} {r : List D} {d : Nat} {E : IL.Env} (h0 : E[0]? = some (some (.tuple (.str w :: x :: r)))) (h1 : E[1]? = some (some (.int d))) : nd0 E = if d < 8 then .ok .none else .exc .look := by
  have h : mAndV (m1 (gIsi "tuple") (mVar 0)) (mAndV (m2 gGt (mB gLen (mCons (mVar 0) mNil)) (mC (.int 1))) (mAndV (m1 (gIsi "str") (m2 gIx (mVar 0) (mC (.int 0)))) (m2 gLt (mVar 1) (mC (.int 8))))) E = .ok (.bool (true && (true && (true && decide (d < 8))))) := by
    refine andV_of (m1_of (g := gIsi "tuple") (var_of h0) (z := .bool true) rfl) fun _ => andV_of (m2_of (mB_of (cons_of (var_of h0) rfl) rfl) rfl ?_) fun _ => andV_of (m1_of (g := gIsi "str") (m2_of (var_of h0) rfl (ix0 _ _)) (z := .bool true) rfl) fun _ => m2_of (var_of h1) rfl ?_
    · show some (PyData.bool (decide ((1 : Int) < ((PyData.str w :: x :: r).length : Int)))) = _
      rw [decide_eq_true (by rw [List.length_cons, List.length_cons]; omega)]
    · show some (PyData.bool (decide ((d : Int) < 8))) = _
      congr 2
      exact decide_eq_decide.mpr (by omega)
  unfold nd0
  rw [(call1 h).trans (need_lk _)]
  by_cases hd : d < 8
  · rw [if_pos hd, decide_eq_true hd]; rfl
  · rw [if_neg hd, decide_eq_false hd]; rfl
theorem reads_ne {w : Str} (h : w ∈ reads) : (w == "num") = false := by
  have : ∀ w ∈ reads, (w == ("num" : Str)) = false := by decide +kernel
  exact this w h
theorem twos_ne {w : Str} (h : w ∈ twos) : (w == "num") = false ∧ decide (w ∈ reads) = false ∧ (w == "look") = false ∧ (w == "when") = false := by
  have : ∀ w ∈ twos, (w == ("num" : Str)) = false ∧ decide (w ∈ reads) = false ∧ (w == ("look" : Str)) = false ∧ (w == ("when" : Str)) = false := by decide +kernel
  exact this w h
def ndK (g_rec : List D → Res D) : Sv := (sIf (mT (m2 gEq (mVar 2) (mC (.str "num")))) (sExpr (mCallN 1 g_need (mCons (mAndV (m2 gEq (mB gLen (mCons (mVar 0) mNil)) (mC (.int 2))) (mCallN 2 g_is_number (mCons (m2 gIx (mVar 0) (mC (.int 1))) (mCons (mC (.int 1000000000)) mNil)))) mNil))) (sIf (mT (m1 (gInT reads) (mVar 2))) (sExpr (mCallN 1 g_need (mCons (mAndV (m2 gEq (mB gLen (mCons (mVar 0) mNil)) (mC (.int 2))) (mCallN 1 g_is_path (mCons (m2 gIx (mVar 0) (mC (.int 1))) mNil))) mNil))) (sIf (mT (m2 gEq (mVar 2) (mC (.str "look")))) (sExpr (mCallN 1 g_need (mCons (mAndV (m2 gEq (mB gLen (mCons (mVar 0) mNil)) (mC (.int 2))) (mCallN 1 g_is_word (mCons (m2 gIx (mVar 0) (mC (.int 1))) mNil))) mNil))) (mSeq (sExpr (mCallN 1 g_need (mCons (mOrV (mAndV (m1 (gInT twos) (mVar 2)) (m2 gEq (mB gLen (mCons (mVar 0) mNil)) (mC (.int 3)))) (mAndV (m2 gEq (mVar 2) (mC (.str "when"))) (m2 gEq (mB gLen (mCons (mVar 0) mNil)) (mC (.int 4))))) mNil)))
    (sFor (mItems tupOf (mSl (mVar 0) (some (mC (.int 1))) none)) 3 (sExpr (mCallN 2 g_rec (mCons (mVar 3) (mCons (m2 gAdd (mVar 1) (mC (.int 1))) mNil)))))))))
theorem m_nd_eq (g : List D → Res D) : m_need_deep g = mSeq (sExpr nd0) (mSeq (sAsg 2 (m2 gIx (mVar 0) (mC (.int 0)))) (ndK g)) := rfl
theorem nd_pre {g : List D → Res D} {w : Str} {x : D} {r : List D} {d : Nat} (hd : d < 8) : m_need_deep g [some (.val (.tuple (.str w :: x :: r))), some (.val (.int d)), none, none] = ndK g [some (.val (.tuple (.str w :: x :: r))), some (.val (.int d)), some (.val (.str w)), none] := by
  have h := nd0_of (w := w) (x := x) (r := r) (d := d) (E := hid [some (.val (.tuple (.str w :: x :: r))), some (.val (.int d)), none, none]) rfl rfl
  rw [if_pos hd] at h
  rw [m_nd_eq, seq_nx (expr_of h), seq_nx (asg_of (d := .str w) (m2_of (var_of rfl) rfl (ix0 _ _)))]
  rfl
theorem nd_far {g : List D → Res D} {w : Str} {x : D} {r : List D} {d : Nat} (hd : ¬ d < 8) : m_need_deep g [some (.val (.tuple (.str w :: x :: r))), some (.val (.int d)), none, none] = .exc .look := by
  have h := nd0_of (w := w) (x := x) (r := r) (d := d) (E := hid [some (.val (.tuple (.str w :: x :: r))), some (.val (.int d)), none, none]) rfl rfl
  rw [if_neg hd] at h
  rw [m_nd_eq, seq_exc (expr_exc h)]
theorem exprB {m : Ev} {env : SEnv} {b : Bool} (h : m (hid env) = if b = true then .ok .none else .exc .look) : outR (sExpr m env) = if b = true then .ok .none else .exc .look := by
  cases b with
  | true => rw [expr_of (h.trans (if_pos rfl))]; rfl
  | false => rw [expr_exc (h.trans (if_neg Bool.false_ne_true))]; rfl
theorem len2 {x y : D} {E : IL.Env} (h : E[0]? = some (some (.tuple [x, y]))) : m2 gEq (mB gLen (mCons (mVar 0) mNil)) (mC (.int 2)) E = .ok (.bool true) := m2_of (mB_of (cons_of (var_of h) rfl) (z := .int 2) rfl) rfl (eq_ints 2 2)
/-- the parts of a term, let by one behind the other -/
theorem parts_of {g : List D → Res D} {d : Nat} {f : Tm → Bool} : ∀ {l : List Tm} {env : SEnv}, (∀ t ∈ l, g [tmD t, .int ((d + 1 : Nat) : Int)] = if f t = true then .ok .none else .exc .look) → env.length = 4 → Has env 1 (.val (.int d)) →
    (l.all f = true → ∃ e, forLoop 3 (sExpr (mCallN 2 g (mCons (mVar 3) (mCons (m2 gAdd (mVar 1) (mC (.int 1))) mNil)))) (l.map tmD) env = .nx e) ∧ (l.all f = false → forLoop 3 (sExpr (mCallN 2 g (mCons (mVar 3) (mCons (m2 gAdd (mVar 1) (mC (.int 1))) mNil)))) (l.map tmD) env = .exc .look)
  | [], env, _, _, _ => ⟨fun _ => ⟨env, rfl⟩, fun h => (nomatch h)⟩
  | t :: l, env, hg, hl, h1 => by
    have v1 : Has (env.set 3 (some (.val (tmD t)))) 1 (.val (.int d)) := h1.ne (by decide)
    have v3 : Has (env.set 3 (some (.val (tmD t)))) 3 (.val (tmD t)) := has_set (by omega)
    have hc : mCallN 2 g (mCons (mVar 3) (mCons (m2 gAdd (mVar 1) (mC (.int 1))) mNil)) (hid (env.set 3 (some (.val (tmD t))))) = if f t = true then .ok .none else .exc .look :=
      (call2 (var_of (hid_of v3)) (m2_of (var_of (hid_of v1)) rfl (z := .int ((d + 1 : Nat) : Int)) rfl)).trans (hg t List.mem_cons_self)
    obtain ⟨r1, r2⟩ := parts_of (l := l) (env := env.set 3 (some (.val (tmD t)))) (fun t ht => hg t (List.mem_cons_of_mem _ ht)) (by rw [List.length_set]; exact hl) v1
    rw [List.all_cons, List.map_cons]
    cases hf : f t with
    | true =>
      rw [hf, if_pos rfl] at hc
      rw [Bool.true_and]
      refine ⟨fun z => ?_, fun z => ?_⟩
      · obtain ⟨e, h⟩ := r1 z
        exact ⟨e, by unfold forLoop; rw [expr_of hc]; exact h⟩
      · unfold forLoop; rw [expr_of hc]; exact r2 z
    | false =>
      rw [hf, if_neg Bool.false_ne_true] at hc
      exact ⟨fun z => (nomatch z), fun _ => by unfold forLoop; rw [expr_exc hc]⟩
theorem tail_of {x : D} {r : List D} {E : IL.Env} (h : E[0]? = some (some (.tuple (x :: r)))) : mItems tupOf (mSl (mVar 0) (some (mC (.int 1))) none) E = .ok r := by
  have e : mSl (mVar 0) (some (mC (.int 1))) none E = .ok (.tuple r) := by
    unfold mSl
    rw [var_of h]
    show ofO (gSl (.tuple (x :: r)) (some 1) none) = _
    show Res.ok (PyData.tuple (cutL (x :: r) (some ((1 : Nat) : Int)) none)) = _
    unfold cutL
    rw [HT.sIx_none, HT.sIx_nat]
    have : min 1 (x :: r).length = 1 := by rw [List.length_cons]; omega
    rw [this]
    show Res.ok (PyData.tuple (r.take ((x :: r).length - 1))) = _
    rw [List.take_of_length_le (by rw [List.length_cons]; omega)]
  unfold mItems
  rw [e]
  rfl
/-- behind the head of a term with parts -/
theorem ndK_parts {g : List D → Res D} {w : Str} {l : List Tm} {d : Nat} {f : Tm → Bool} (hw : ((w == "num") = false ∧ decide (w ∈ reads) = false ∧ (w == "look") = false)) (hn : g_need [.bool ((decide (w ∈ twos) && ((l.length + 1 : Nat) : Int) == 3) || ((w == "when") && ((l.length + 1 : Nat) : Int) == 4))] = .ok .none)
    (hg : ∀ t ∈ l, g [tmD t, .int ((d + 1 : Nat) : Int)] = if f t = true then .ok .none else .exc .look) : outR (ndK g [some (.val (.tuple (.str w :: l.map tmD))), some (.val (.int d)), some (.val (.str w)), none]) = if l.all f = true then .ok .none else .exc .look := by
  let env : SEnv := [some (.val (.tuple (.str w :: l.map tmD))), some (.val (.int d)), some (.val (.str w)), none]
  have t1 : mT (m2 gEq (mVar 2) (mC (.str "num"))) (vis env) = .ok false := mT_of (m2_of (var_of rfl) rfl (by rw [eq_strs, hw.1]))
  have t2 : mT (m1 (gInT reads) (mVar 2)) (vis env) = .ok false := mT_of (m1_of (var_of rfl) (by rw [inT_str, hw.2.1]))
  have t3 : mT (m2 gEq (mVar 2) (mC (.str "look"))) (vis env) = .ok false := mT_of (m2_of (var_of rfl) rfl (by rw [eq_strs, hw.2.2]))
  have hl : ∀ k : Int, m2 gEq (mB gLen (mCons (mVar 0) mNil)) (mC (.int k)) (hid env) = .ok (.bool (((l.length + 1 : Nat) : Int) == k)) := fun k => m2_of (mB_of (cons_of (var_of rfl) rfl) (z := .int ((l.length + 1 : Nat) : Int)) (by
    show some (PyData.int ((PyData.str w :: l.map tmD).length : Int)) = _
    rw [List.length_cons, List.length_map])) rfl (eq_ints _ k)
  have ho : mOrV (mAndV (m1 (gInT twos) (mVar 2)) (m2 gEq (mB gLen (mCons (mVar 0) mNil)) (mC (.int 3)))) (mAndV (m2 gEq (mVar 2) (mC (.str "when"))) (m2 gEq (mB gLen (mCons (mVar 0) mNil)) (mC (.int 4)))) (hid env) = .ok (.bool ((decide (w ∈ twos) && ((l.length + 1 : Nat) : Int) == 3) || ((w == "when") && ((l.length + 1 : Nat) : Int) == 4))) :=
    orV_of (andV_of (m1_of (var_of rfl) (inT_str twos w)) fun _ => hl 3) fun _ => andV_of (m2_of (var_of rfl) rfl (eq_strs w "when")) fun _ => hl 4
  have s0 := expr_of ((call1 ho).trans hn)
  obtain ⟨p1, p2⟩ := parts_of (l := l) (env := env) hg rfl rfl
  have it : mItems tupOf (mSl (mVar 0) (some (mC (.int 1))) none) (hid env) = .ok (l.map tmD) := tail_of rfl
  show outR (ndK g env) = _
  unfold ndK
  rw [if_of t1, if_neg Bool.false_ne_true, if_of t2, if_neg Bool.false_ne_true, if_of t3, if_neg Bool.false_ne_true, seq_nx s0, for_of it]
  cases ha : l.all f with
  | true =>
    obtain ⟨e, he⟩ := p1 ha
    rw [he, if_pos rfl]
    rfl
  | false => rw [p2 ha, if_neg Bool.false_ne_true]; rfl
theorem need_deep_of : ∀ (t : Tm) (n d : Nat), Syn t → d ≤ 8 → 9 ≤ n + 1 + d → g_need_deep (n + 1) [tmD t, .int d] = if validB d t = true then .ok .none else .exc .look := by
  intro t
  induction t with
  | num v =>
    intro n d _ hd hf
    show outR (m_need_deep (g_need_deep n) [some (.val (.tuple [.str "num", .int v])), some (.val (.int d)), none, none]) = _
    unfold validB
    by_cases h : d < 8
    · rw [nd_pre h, decide_eq_true h, Bool.true_and]
      refine (congrArg outR (if_of (x := true) (mT_of (m2_of (var_of rfl) rfl (eq_strs "num" "num"))))).trans (exprB ?_)
      exact (call1 (andV_of (x := true) (len2 rfl) fun _ => (call2 (m2_of (var_of rfl) rfl (z := .int v) rfl) rfl).trans (is_number_of v))).trans (need_lk _)
    · rw [nd_far h, decide_eq_false h]; rfl
  | rd w p =>
    intro n d hs hd hf
    show outR (m_need_deep (g_need_deep n) [some (.val (.tuple [.str w, pathD p])), some (.val (.int d)), none, none]) = _
    unfold validB
    by_cases h : d < 8
    · rw [nd_pre h, decide_eq_true h, Bool.true_and]
      let env : SEnv := [some (.val (.tuple [.str w, pathD p])), some (.val (.int d)), some (.val (.str w)), none]
      have t1 : mT (m2 gEq (mVar 2) (mC (.str "num"))) (vis env) = .ok false := mT_of (m2_of (var_of rfl) rfl (by rw [eq_strs, reads_ne hs.1]))
      have t2 : mT (m1 (gInT reads) (mVar 2)) (vis env) = .ok true := mT_of (m1_of (var_of rfl) (by rw [inT_str, decide_eq_true hs.1]))
      show outR (ndK (g_need_deep n) env) = _
      unfold ndK
      rw [if_of t1, if_neg Bool.false_ne_true, if_of t2, if_pos rfl]
      exact exprB ((call1 (andV_of (x := true) (len2 rfl) fun _ => (call1 (m2_of (var_of rfl) rfl (z := pathD p) rfl)).trans (is_path_of p hs.2))).trans (need_lk _))
    · rw [nd_far h, decide_eq_false h]; rfl
  | look w =>
    intro n d hs hd hf
    show outR (m_need_deep (g_need_deep n) [some (.val (.tuple [.str "look", .str w])), some (.val (.int d)), none, none]) = _
    unfold validB
    by_cases h : d < 8
    · rw [nd_pre h, decide_eq_true h, Bool.true_and]
      let env : SEnv := [some (.val (.tuple [.str "look", .str w])), some (.val (.int d)), some (.val (.str "look")), none]
      have t1 : mT (m2 gEq (mVar 2) (mC (.str "num"))) (vis env) = .ok false := mT_of (m2_of (var_of rfl) rfl (eq_strs "look" "num"))
      have t2 : mT (m1 (gInT reads) (mVar 2)) (vis env) = .ok false := mT_of (m1_of (var_of rfl) (by rw [inT_str, show decide (("look" : Str) ∈ reads) = false from by decide +kernel]))
      have t3 : mT (m2 gEq (mVar 2) (mC (.str "look"))) (vis env) = .ok true := mT_of (m2_of (var_of rfl) rfl (eq_strs "look" "look"))
      show outR (ndK (g_need_deep n) env) = _
      unfold ndK
      rw [if_of t1, if_neg Bool.false_ne_true, if_of t2, if_neg Bool.false_ne_true, if_of t3, if_pos rfl]
      exact exprB ((call1 (andV_of (x := true) (len2 rfl) fun _ => (call1 (m2_of (var_of rfl) rfl (z := .str w) rfl)).trans (is_word_of w (decide_eq_true hs)))).trans (need_lk _))
    · rw [nd_far h, decide_eq_false h]; rfl
  | two w a b iha ihb =>
    intro n d hs hd hf
    show outR (m_need_deep (g_need_deep n) [some (.val (.tuple [.str w, tmD a, tmD b])), some (.val (.int d)), none, none]) = _
    unfold validB
    by_cases h : d < 8
    · rw [nd_pre h, decide_eq_true h, Bool.true_and]
      obtain ⟨w1, w2, w3, w4⟩ := twos_ne hs.1
      obtain ⟨k, rfl⟩ : ∃ k, n = k + 1 := ⟨n - 1, by omega⟩
      have hz := ndK_parts (g := g_need_deep (k + 1)) (w := w) (l := [a, b]) (d := d) (f := validB (d + 1)) ⟨w1, w2, w3⟩ (by rw [decide_eq_true hs.1]; rfl) (fun t ht => by
        rcases List.mem_cons.mp ht with rfl | ht
        · exact iha k (d + 1) hs.2.1 (by omega) (by omega)
        rcases List.mem_cons.mp ht with rfl | ht
        · exact ihb k (d + 1) hs.2.2 (by omega) (by omega)
        · cases ht)
      have e : ([a, b] : List Tm).all (validB (d + 1)) = (validB (d + 1) a && validB (d + 1) b) := by simp
      rw [e] at hz
      exact hz
    · rw [nd_far h, decide_eq_false h]; rfl
  | when a b c iha ihb ihc =>
    intro n d hs hd hf
    show outR (m_need_deep (g_need_deep n) [some (.val (.tuple [.str "when", tmD a, tmD b, tmD c])), some (.val (.int d)), none, none]) = _
    unfold validB
    by_cases h : d < 8
    · rw [nd_pre h, decide_eq_true h, Bool.true_and]
      obtain ⟨k, rfl⟩ : ∃ k, n = k + 1 := ⟨n - 1, by omega⟩
      have hz := ndK_parts (g := g_need_deep (k + 1)) (w := "when") (l := [a, b, c]) (d := d) (f := validB (d + 1)) (by decide +kernel) (by rfl) (fun t ht => by
        rcases List.mem_cons.mp ht with rfl | ht
        · exact iha k (d + 1) hs.1 (by omega) (by omega)
        rcases List.mem_cons.mp ht with rfl | ht
        · exact ihb k (d + 1) hs.2.1 (by omega) (by omega)
        rcases List.mem_cons.mp ht with rfl | ht
        · exact ihc k (d + 1) hs.2.2 (by omega) (by omega)
        · cases ht)
      have e : ([a, b, c] : List Tm).all (validB (d + 1)) = (validB (d + 1) a && (validB (d + 1) b && validB (d + 1) c)) := by simp
      rw [e] at hz
      exact hz
    · rw [nd_far h, decide_eq_false h]; rfl
theorem need_term_of {t : Tm} (h : Syn t) : g_need_term [tmD t] = if validB 0 t = true then .ok .none else .exc .look := by
  have z := need_deep_of t 11 0 h (by decide) (by decide)
  show outR (m_need_term [some (.val (tmD t))]) = _
  unfold m_need_term
  exact exprB ((call2 (var_of rfl) rfl).trans z)
end K70
namespace K70
open PySem IL
/-! ### plain: a term's text -/
def tx : Tm → Str
  | .num n => num n
  | .rd w p => w ++ " " ++ pathTx p
  | .look w => ("look" : Str) ++ " " ++ w
  | .two w a b => ("(" : Str) ++ tx a ++ " " ++ w ++ " " ++ tx b ++ ")"
  | .when a b c => ("(when " : Str) ++ tx a ++ " then " ++ tx b ++ " else " ++ tx c ++ ")"
theorem reads_len : ∀ w ∈ reads, w.length ≤ 5 := by decide +kernel
theorem twos_len : ∀ w ∈ twos, w.length ≤ 5 := by decide +kernel
theorem word_len {x : Str} (h : wordB x = true) : x.length ≤ 6 := by
  unfold wordB at h
  simp only [Bool.and_eq_true, decide_eq_true_eq] at h
  exact h.1.2
theorem l1 : (" " : Str).length = 1 := by decide
theorem l2 : ("(" : Str).length = 1 := by decide
theorem l3 : (")" : Str).length = 1 := by decide
theorem l4 : ("look" : Str).length = 4 := by decide
theorem l5 : ("(when " : Str).length = 6 := by decide
theorem l6 : (" then " : Str).length = 6 := by decide
theorem l7 : (" else " : Str).length = 6 := by decide
theorem tx_len : ∀ {t : Tm} {h : Nat}, Syn t → okL t = true → ht t ≤ h → (tx t).length + 20 ≤ 60 * 3 ^ h
  | .num v, h, _, o, _ => by
    have := numT_len (v := v) (by have := of_decide_eq_true (show decide (v.natAbs ≤ 1000000000) = true from o); omega)
    have p : 0 < 3 ^ h := Nat.pow_pos (by decide)
    show (num v).length + 20 ≤ _
    omega
  | .rd w q, h, s, o, _ => by
    have h1 := reads_len w s.1
    have h2 := pathTx_len (small_of (p := q) o)
    have p : 0 < 3 ^ h := Nat.pow_pos (by decide)
    show (w ++ " " ++ pathTx q).length + 20 ≤ _
    rw [len_app, len_app, l1]
    omega
  | .look w, h, s, o, _ => by
    have h1 := word_len (x := w) o
    have p : 0 < 3 ^ h := Nat.pow_pos (by decide)
    show (("look" : Str) ++ " " ++ w).length + 20 ≤ _
    rw [len_app, len_app, l1, l4]
    omega
  | .two w a b, h, s, o, e => by
    unfold okL at o
    unfold ht at e
    rw [Bool.and_eq_true] at o
    obtain ⟨k, rfl⟩ : ∃ k, h = k + 1 := ⟨h - 1, by omega⟩
    have h1 := tx_len (t := a) (h := k) s.2.1 o.1 (by omega)
    have h2 := tx_len (t := b) (h := k) s.2.2 o.2 (by omega)
    have h3 := twos_len w s.1
    show (("(" : Str) ++ tx a ++ " " ++ w ++ " " ++ tx b ++ ")").length + 20 ≤ _
    simp only [len_app, l1, l2, l3]
    rw [Nat.pow_succ]
    omega
  | .when a b c, h, s, o, e => by
    unfold okL at o
    unfold ht at e
    rw [Bool.and_eq_true, Bool.and_eq_true] at o
    obtain ⟨k, rfl⟩ : ∃ k, h = k + 1 := ⟨h - 1, by omega⟩
    have h1 := tx_len (t := a) (h := k) s.1 o.1 (by omega)
    have h2 := tx_len (t := b) (h := k) s.2.1 o.2.1 (by omega)
    have h3 := tx_len (t := c) (h := k) s.2.2 o.2.2 (by omega)
    show (("(when " : Str) ++ tx a ++ " then " ++ tx b ++ " else " ++ tx c ++ ")").length + 20 ≤ _
    simp only [len_app, l3, l5, l6, l7]
    rw [Nat.pow_succ]
    omega
theorem tx_len7 {t : Tm} (s : Syn t) (o : okL t = true) (e : ht t ≤ 7) : (tx t).length ≤ 200000 := by
  have := tx_len s o e
  omega
theorem tx_len4 {t : Tm} (s : Syn t) (o : okL t = true) (e : ht t ≤ 4) : (tx t).length ≤ 5000 := by
  have := tx_len s o e
  omega
theorem addT {a b : Ev} {E : IL.Env} {x y : Str} (h : a E = .ok (.str x)) (h' : b E = .ok (.str y)) (l : x.length + y.length ≤ 1000000) : m2 gAdd a b E = .ok (.str (x ++ y)) := m2_of h h' (add_strs l)
theorem ix_c {E : IL.Env} {d z : D} {k : Int} (h : E[0]? = some (some d)) (hz : gIx d (.int k) = some z) : m2 gIx (mVar 0) (mC (.int k)) E = .ok z := m2_of (var_of h) rfl hz
theorem ifT {t : IL.Env → Res Bool} {a b : Sv} {env : SEnv} {o : Out} (h : t (vis env) = .ok true) (h' : a env = o) : sIf t a b env = o := ((if_of h).trans (if_pos rfl)).trans h'
theorem ifF {t : IL.Env → Res Bool} {a : Sv} {env : SEnv} (h : t (vis env) = .ok false) : sIf t a mSkip env = .nx env := ((if_of h).trans (if_neg Bool.false_ne_true)).trans rfl
theorem txt_of : ∀ (t : Tm) (n : Nat), Syn t → okL t = true → ht t ≤ n → ht t ≤ 7 → g_text_of (n + 1) [tmD t] = .ok (.str (tx t)) := by
  intro t
  induction t with
  | num v =>
    intro n s o e e7
    have l : v.natAbs ≤ 1000000000 := of_decide_eq_true o
    let env : SEnv := [some (.val (.tuple [.str "num", .int v])), some (.val (.str "num"))]
    show outR (m_text_of (g_text_of n) [some (.val (.tuple [.str "num", .int v])), none]) = _
    unfold m_text_of
    rw [seq_nx (show sAsg 1 _ _ = .nx env from asg_of (ix_c rfl rfl))]
    have t1 : mT (m2 gEq (mVar 1) (mC (.str "num"))) (vis env) = .ok true := mT_of (m2_of (var_of rfl) rfl (eq_strs "num" "num"))
    rw [seq_ret (show sIf _ _ _ env = .ret (.str (num v)) from ifT t1 (ret_of (mB_of (cons_of (ix_c rfl (z := .int v) rfl) rfl) (strI_of l))))]
    rfl
  | rd w q =>
    intro n s o e e7
    let env : SEnv := [some (.val (.tuple [.str w, pathD q])), some (.val (.str w))]
    show outR (m_text_of (g_text_of n) [some (.val (.tuple [.str w, pathD q])), none]) = _
    unfold m_text_of
    rw [seq_nx (show sAsg 1 _ _ = .nx env from asg_of (ix_c rfl rfl))]
    have t1 : mT (m2 gEq (mVar 1) (mC (.str "num"))) (vis env) = .ok false := mT_of (m2_of (var_of rfl) rfl (by rw [eq_strs, reads_ne s.1]))
    have t2 : mT (m1 (gInT reads) (mVar 1)) (vis env) = .ok true := mT_of (m1_of (var_of rfl) (by rw [inT_str, decide_eq_true s.1]))
    have h1 := reads_len w s.1
    have h2 := pathTx_len (small_of (p := q) o)
    rw [seq_nx (show sIf _ _ mSkip env = .nx env from ifF t1)]
    rw [seq_ret (show sIf _ _ _ env = .ret (.str (w ++ " " ++ pathTx q)) from ifT t2 (ret_of (addT (addT (var_of rfl) rfl (by rw [l1]; omega)) ((call1 (ix_c rfl (z := pathD q) rfl)).trans (path_text_of q (small_of (p := q) o))) (by rw [len_app, l1]; omega))))]
    rfl
  | look w =>
    intro n s o e e7
    let env : SEnv := [some (.val (.tuple [.str "look", .str w])), some (.val (.str "look"))]
    show outR (m_text_of (g_text_of n) [some (.val (.tuple [.str "look", .str w])), none]) = _
    unfold m_text_of
    rw [seq_nx (show sAsg 1 _ _ = .nx env from asg_of (ix_c rfl rfl))]
    have t1 : mT (m2 gEq (mVar 1) (mC (.str "num"))) (vis env) = .ok false := mT_of (m2_of (var_of rfl) rfl (eq_strs "look" "num"))
    have t2 : mT (m1 (gInT reads) (mVar 1)) (vis env) = .ok false := mT_of (m1_of (var_of rfl) (by rw [inT_str, show decide (("look" : Str) ∈ reads) = false from by decide +kernel]))
    have t3 : mT (m2 gEq (mVar 1) (mC (.str "look"))) (vis env) = .ok true := mT_of (m2_of (var_of rfl) rfl (eq_strs "look" "look"))
    have h1 := word_len (x := w) o
    rw [seq_nx (show sIf _ _ mSkip env = .nx env from ifF t1), seq_nx (show sIf _ _ mSkip env = .nx env from ifF t2)]
    rw [seq_ret (show sIf _ _ _ env = .ret (.str (("look" : Str) ++ " " ++ w)) from ifT t3 (ret_of (addT (addT (var_of rfl) rfl (by rw [l1, l4]; omega)) (ix_c rfl (z := .str w) rfl) (by rw [len_app, l1, l4]; omega))))]
    rfl
  | two w a b iha ihb =>
    intro n s o e e7
    have full := tx_len7 s o (by omega)
    unfold okL at o
    unfold ht at e e7
    rw [Bool.and_eq_true] at o
    obtain ⟨k, rfl⟩ : ∃ k, n = k + 1 := ⟨n - 1, by omega⟩
    have ra := iha k s.2.1 o.1 (by omega) (by omega)
    have rb := ihb k s.2.2 o.2 (by omega) (by omega)
    obtain ⟨w1, w2, w3, w4⟩ := twos_ne s.1
    let env : SEnv := [some (.val (.tuple [.str w, tmD a, tmD b])), some (.val (.str w))]
    show outR (m_text_of (g_text_of (k + 1)) [some (.val (.tuple [.str w, tmD a, tmD b])), none]) = _
    unfold m_text_of
    rw [seq_nx (show sAsg 1 _ _ = .nx env from asg_of (ix_c rfl rfl))]
    have t1 : mT (m2 gEq (mVar 1) (mC (.str "num"))) (vis env) = .ok false := mT_of (m2_of (var_of rfl) rfl (by rw [eq_strs, w1]))
    have t2 : mT (m1 (gInT reads) (mVar 1)) (vis env) = .ok false := mT_of (m1_of (var_of rfl) (by rw [inT_str, w2]))
    have t3 : mT (m2 gEq (mVar 1) (mC (.str "look"))) (vis env) = .ok false := mT_of (m2_of (var_of rfl) rfl (by rw [eq_strs, w3]))
    have t4 : mT (m2 gEq (mVar 1) (mC (.str "when"))) (vis env) = .ok false := mT_of (m2_of (var_of rfl) rfl (by rw [eq_strs, w4]))
    rw [seq_nx (show sIf _ _ mSkip env = .nx env from ifF t1), seq_nx (show sIf _ _ mSkip env = .nx env from ifF t2), seq_nx (show sIf _ _ mSkip env = .nx env from ifF t3), seq_nx (show sIf _ _ mSkip env = .nx env from ifF t4)]
    have full : (("(" : Str) ++ tx a ++ " " ++ w ++ " " ++ tx b ++ ")").length ≤ 200000 := full
    simp only [len_app, l1, l2, l3] at full
    rw [ret_of (addT (addT (addT (addT (addT (addT (x := "(") rfl ((call1 (ix_c rfl (z := tmD a) rfl)).trans ra) ?_) rfl ?_) (var_of rfl) ?_) rfl ?_) ((call1 (ix_c rfl (z := tmD b) rfl)).trans rb) ?_) rfl ?_)]
    · rfl
    all_goals (simp only [len_app, l1, l2, l3]; omega)
  | when a b c iha ihb ihc =>
    intro n s o e e7
    have full := tx_len7 s o (by omega)
    unfold okL at o
    unfold ht at e e7
    rw [Bool.and_eq_true, Bool.and_eq_true] at o
    obtain ⟨k, rfl⟩ : ∃ k, n = k + 1 := ⟨n - 1, by omega⟩
    have ra := iha k s.1 o.1 (by omega) (by omega)
    have rb := ihb k s.2.1 o.2.1 (by omega) (by omega)
    have rc := ihc k s.2.2 o.2.2 (by omega) (by omega)
    let env : SEnv := [some (.val (.tuple [.str "when", tmD a, tmD b, tmD c])), some (.val (.str "when"))]
    show outR (m_text_of (g_text_of (k + 1)) [some (.val (.tuple [.str "when", tmD a, tmD b, tmD c])), none]) = _
    unfold m_text_of
    rw [seq_nx (show sAsg 1 _ _ = .nx env from asg_of (ix_c rfl rfl))]
    have t1 : mT (m2 gEq (mVar 1) (mC (.str "num"))) (vis env) = .ok false := mT_of (m2_of (var_of rfl) rfl (eq_strs "when" "num"))
    have t2 : mT (m1 (gInT reads) (mVar 1)) (vis env) = .ok false := mT_of (m1_of (var_of rfl) (by rw [inT_str, show decide (("when" : Str) ∈ reads) = false from by decide +kernel]))
    have t3 : mT (m2 gEq (mVar 1) (mC (.str "look"))) (vis env) = .ok false := mT_of (m2_of (var_of rfl) rfl (eq_strs "when" "look"))
    have t4 : mT (m2 gEq (mVar 1) (mC (.str "when"))) (vis env) = .ok true := mT_of (m2_of (var_of rfl) rfl (eq_strs "when" "when"))
    rw [seq_nx (show sIf _ _ mSkip env = .nx env from ifF t1), seq_nx (show sIf _ _ mSkip env = .nx env from ifF t2), seq_nx (show sIf _ _ mSkip env = .nx env from ifF t3)]
    have full : (("(when " : Str) ++ tx a ++ " then " ++ tx b ++ " else " ++ tx c ++ ")").length ≤ 200000 := full
    simp only [len_app, l3, l5, l6, l7] at full
    rw [seq_ret (show sIf _ _ _ env = .ret (.str (("(when " : Str) ++ tx a ++ " then " ++ tx b ++ " else " ++ tx c ++ ")")) from ifT t4 (ret_of (addT (addT (addT (addT (addT (addT (x := "(when ") rfl ((call1 (ix_c rfl (z := tmD a) rfl)).trans ra) (by simp only [len_app, l5]; omega)) rfl (by simp only [len_app, l5, l6]; omega)) ((call1 (ix_c rfl (z := tmD b) rfl)).trans rb) (by simp only [len_app, l5, l6]; omega)) rfl (by simp only [len_app, l5, l6, l7]; omega)) ((call1 (ix_c rfl (z := tmD c) rfl)).trans rc) (by simp only [len_app, l5, l6, l7]; omega)) rfl (by simp only [len_app, l3, l5, l6, l7]; omega))))]
    rfl
theorem term_text_of {t : Tm} (s : Syn t) (v : validB 0 t = true) : g_term_text [tmD t] = .ok (.str (tx t)) := by
  obtain ⟨o, e⟩ := valid_ok v
  have h1 := need_term_of s
  rw [if_pos v] at h1
  have h2 : g_text_of 12 [tmD t] = .ok (.str (tx t)) := txt_of t 11 s o (by omega) (by omega)
  show outR (m_term_text [some (.val (tmD t))]) = _
  unfold m_term_text
  rw [seq_nx (expr_of ((call1 (var_of rfl)).trans h1)), ret_of ((call1 (var_of rfl)).trans h2)]
  rfl
end K70
namespace K70
open PySem IL
/-! ### plain: terms are data -/
theorem tm_plain : ∀ t : Tm, (tmD t).plain = true
  | .num n => rfl
  | .rd w p => by
    show (PyData.tuple [.str w, pathD p]).plain = true
    unfold pathD
    rw [PyData.plain, PyData.plainAll, PyData.plainAll, PyData.plain, PyData.plain, plain_strs]
    rfl
  | .look w => rfl
  | .two w a b => by
    show (PyData.tuple [.str w, tmD a, tmD b]).plain = true
    rw [PyData.plain, PyData.plainAll, PyData.plainAll, PyData.plainAll, tm_plain a, tm_plain b]
    rfl
  | .when a b c => by
    show (PyData.tuple [.str "when", tmD a, tmD b, tmD c]).plain = true
    rw [PyData.plain, PyData.plainAll, PyData.plainAll, PyData.plainAll, PyData.plainAll, tm_plain a, tm_plain b, tm_plain c]
    rfl
theorem tm_depth : ∀ t : Tm, (tmD t).depth ≤ ht t + 2
  | .num n => by
    show (PyData.tuple [.str "num", .int n]).depth ≤ 2
    rw [PyData.depth, PyData.depthAll, PyData.depthAll, PyData.depth, PyData.depth]
    decide
  | .rd w p => by
    show (PyData.tuple [.str w, pathD p]).depth ≤ 2
    unfold pathD
    rw [PyData.depth, PyData.depthAll, PyData.depthAll, PyData.depth, PyData.depth, depth_strs]
    decide
  | .look w => by
    show (PyData.tuple [.str "look", .str w]).depth ≤ 2
    rw [PyData.depth, PyData.depthAll, PyData.depthAll, PyData.depth, PyData.depth]
    decide
  | .two w a b => by
    have h1 := tm_depth a
    have h2 := tm_depth b
    show (PyData.tuple [.str w, tmD a, tmD b]).depth ≤ max (ht a) (ht b) + 1 + 2
    rw [PyData.depth, PyData.depthAll, PyData.depthAll, PyData.depthAll, PyData.depth, PyData.depthAll]
    omega
  | .when a b c => by
    have h1 := tm_depth a
    have h2 := tm_depth b
    have h3 := tm_depth c
    show (PyData.tuple [.str "when", tmD a, tmD b, tmD c]).depth ≤ max (ht a) (max (ht b) (ht c)) + 1 + 2
    rw [PyData.depth, PyData.depthAll, PyData.depthAll, PyData.depthAll, PyData.depthAll, PyData.depth, PyData.depthAll]
    omega
theorem tm_ne {t : Tm} (h : ht t ≤ 7) : gNe (tmD t) (tmD t) = some (.bool false) := by
  have h1 := tm_plain t
  have h3 : decide ((tmD t).depth ≤ 60) = true := decide_eq_true (by have := tm_depth t; omega)
  unfold gNe gEqB
  rw [h1, h3, Bool.or_true, if_pos (by rfl), PySem.SeqAt.eqv_refl_plain _ h1]
  rfl
theorem tm_ne_any (t : Tm) {d : D} (h : d.plain = true) (l : d.depth ≤ 60) : ∃ b, gNe (tmD t) d = some (.bool b) := by
  unfold gNe gEqB
  rw [tm_plain t, h, decide_eq_true l, Bool.or_true, if_pos (by rfl)]
  exact ⟨_, rfl⟩
/-! ### a term's text, as the law writes it -/
theorem compLoop_map {α : Type} {f1 f2 : α → D} {j : Nat} {f : Ev} {env : IL.Env} : ∀ {l : List α}, (∀ a ∈ l, f (env.set j (some (f1 a))) = .ok (f2 a)) → compLoop j mYes f env (l.map f1) = .ok (l.map f2)
  | [], _ => rfl
  | a :: l, hf => by
    show compLoop j mYes f env (f1 a :: l.map f1) = _
    unfold compLoop mYes
    show (noExc (f (env.set j (some (f1 a))))).bind _ = _
    rw [hf a List.mem_cons_self]
    show (compLoop j mYes f env (l.map f1)).bind _ = _
    rw [compLoop_map (l := l) fun b hb => hf b (List.mem_cons_of_mem _ hb)]
    rfl
theorem comp_map {α : Type} {f1 f2 : α → D} {it : IL.Env → Res (List D)} {j : Nat} {f : Ev} {E : IL.Env} {l : List α} (hi : it E = .ok (l.map f1)) (hb : l.length ≤ 1000) (hf : ∀ a ∈ l, f (E.set j (some (f1 a))) = .ok (f2 a)) : mComp it j mYes f E = .ok (.list (l.map f2)) := by
  unfold mComp
  rw [hi]
  show (if big (l.map f1).length = true then (compLoop j mYes f (E.set j none) (l.map f1)).bind (fun ys => Res.ok (PyData.list ys)) else Res.stuck) = _
  rw [if_pos (show big (l.map f1).length = true from decide_eq_true (by rw [List.length_map]; omega)), compLoop_map (f2 := f2) fun a ha => by rw [List.set_set]; exact hf a ha]
  rfl
theorem tm_str (t : Tm) : gIsi "str" (tmD t) = some (.bool false) := by cases t <;> rfl
theorem ix_v {E : IL.Env} {i : Nat} {d z : D} {k : Int} (h : E[i]? = some (some d)) (hz : gIx d (.int k) = some z) : m2 gIx (mVar i) (mC (.int k)) E = .ok z := m2_of (var_of h) rfl hz
theorem num_ne {w : Str} (h : (w == ("num" : Str)) = false) {r : List D} {E : IL.Env} (hE : E[0]? = some (some (.tuple (.str w :: r)))) : mT (m2 gEq (m2 gIx (mVar 0) (mC (.int 0))) (mC (.str "num"))) E = .ok false := mT_of (m2_of (m2_of (var_of hE) rfl (ix0 _ _)) rfl (by rw [eq_strs, h]))
theorem look_sp : ("look " : Str) = ("look" : Str) ++ " " := by decide +kernel
theorem ltt_of : ∀ (t : Tm) (n : Nat), Syn t → okL t = true → ht t ≤ n → ht t ≤ 7 → g_law_term_text (n + 1) [tmD t] = .ok (.str (tx t)) := by
  intro t
  induction t with
  | num v =>
    intro n s o e e7
    have l : v.natAbs ≤ 1000000000 := of_decide_eq_true o
    let env : SEnv := [some (.val (.tuple [.str "num", .int v])), none, none]
    show outR (m_law_term_text (g_law_term_text n) env) = _
    unfold m_law_term_text
    have t1 : mT (m2 gEq (m2 gIx (mVar 0) (mC (.int 0))) (mC (.str "num"))) (vis env) = .ok true := mT_of (m2_of (ix_c rfl (z := .str "num") rfl) rfl (eq_strs "num" "num"))
    rw [seq_ret (show sIf _ _ _ env = .ret (.str (num v)) from ifT t1 (ret_of (mB_of (cons_of (ix_c rfl (z := .int v) rfl) rfl) (strI_of l))))]
    rfl
  | rd w q =>
    intro n s o e e7
    let env : SEnv := [some (.val (.tuple [.str w, pathD q])), none, none]
    show outR (m_law_term_text (g_law_term_text n) env) = _
    unfold m_law_term_text
    have t1 := num_ne (reads_ne s.1) (E := vis env) (r := [pathD q]) rfl
    have t2 : mT (m1 (gIsi "str") (m2 gIx (mVar 0) (mC (.int 1)))) (vis env) = .ok false := mT_of (m1_of (g := gIsi "str") (ix_c rfl (z := pathD q) rfl) (z := .bool false) rfl)
    have t3 : mT (m2 gEq (mB gLen (mCons (mVar 0) mNil)) (mC (.int 2))) (vis env) = .ok true := mT_of (m2_of (mB_of (cons_of (var_of rfl) rfl) (z := .int 2) rfl) rfl (eq_ints 2 2))
    have h1 := reads_len w s.1
    have h2 := pathTx_len (small_of (p := q) o)
    rw [seq_nx (show sIf _ _ mSkip env = .nx env from ifF t1), seq_nx (show sIf _ _ mSkip env = .nx env from ifF t2)]
    rw [seq_ret (show sIf _ _ _ env = .ret (.str (w ++ " " ++ pathTx q)) from ifT t3 (ret_of (addT (addT (ix_c rfl (z := .str w) rfl) rfl (by rw [l1]; omega)) ((call1 (ix_c rfl (z := pathD q) rfl)).trans (law_path_text_of q (small_of (p := q) o))) (by rw [len_app, l1]; omega))))]
    rfl
  | look w =>
    intro n s o e e7
    let env : SEnv := [some (.val (.tuple [.str "look", .str w])), none, none]
    show outR (m_law_term_text (g_law_term_text n) env) = _
    unfold m_law_term_text
    have t1 := num_ne (w := "look") (by decide +kernel) (E := vis env) (r := [.str w]) rfl
    have t2 : mT (m1 (gIsi "str") (m2 gIx (mVar 0) (mC (.int 1)))) (vis env) = .ok true := mT_of (m1_of (g := gIsi "str") (ix_c rfl (z := .str w) rfl) (z := .bool true) rfl)
    have h1 := word_len (x := w) o
    have hl : ("look " : Str).length = 5 := by decide
    rw [seq_nx (show sIf _ _ mSkip env = .nx env from ifF t1)]
    rw [seq_ret (show sIf _ _ _ env = .ret (.str (("look " : Str) ++ w)) from ifT t2 (ret_of (addT (x := "look ") rfl (ix_c rfl (z := .str w) rfl) (by rw [hl]; omega))))]
    show Res.ok (PyData.str (("look " : Str) ++ w)) = Res.ok (PyData.str (("look" : Str) ++ " " ++ w))
    rw [look_sp]
  | two w a b iha ihb =>
    intro n s o e e7
    have full := tx_len7 s o (by omega)
    unfold okL at o
    unfold ht at e e7
    rw [Bool.and_eq_true] at o
    obtain ⟨k, rfl⟩ : ∃ k, n = k + 1 := ⟨n - 1, by omega⟩
    have ra := iha k s.2.1 o.1 (by omega) (by omega)
    have rb := ihb k s.2.2 o.2 (by omega) (by omega)
    obtain ⟨w1, w2, w3, w4⟩ := twos_ne s.1
    let env : SEnv := [some (.val (.tuple [.str w, tmD a, tmD b])), none, none]
    let env1 : SEnv := [some (.val (.tuple [.str w, tmD a, tmD b])), some (.val (.list [.str (tx a), .str (tx b)])), none]
    show outR (m_law_term_text (g_law_term_text (k + 1)) env) = _
    unfold m_law_term_text
    have t1 := num_ne w1 (E := vis env) (r := [tmD a, tmD b]) rfl
    have t2 : mT (m1 (gIsi "str") (m2 gIx (mVar 0) (mC (.int 1)))) (vis env) = .ok false := mT_of (m1_of (g := gIsi "str") (ix_c rfl (z := tmD a) rfl) (tm_str a))
    have t3 : mT (m2 gEq (mB gLen (mCons (mVar 0) mNil)) (mC (.int 2))) (vis env) = .ok false := mT_of (m2_of (mB_of (cons_of (var_of rfl) rfl) (z := .int 3) rfl) rfl (eq_ints 3 2))
    have t4 : mT (m2 gEq (mB gLen (mCons (mVar 0) mNil)) (mC (.int 4))) (vis env1) = .ok false := mT_of (m2_of (mB_of (cons_of (var_of rfl) rfl) (z := .int 3) rfl) rfl (eq_ints 3 4))
    have cm := comp_map (f1 := tmD) (f2 := fun t => .str (tx t)) (j := 2) (f := mCallN 1 (g_law_term_text (k + 1)) (mCons (mVar 2) mNil)) (l := [a, b]) (tail_of (x := .str w) (r := [tmD a, tmD b]) (E := hid env) rfl) (by simp) (fun t ht => by
      rcases List.mem_cons.mp ht with rfl | ht
      · exact (call1 (var_of rfl)).trans ra
      rcases List.mem_cons.mp ht with rfl | ht
      · exact (call1 (var_of rfl)).trans rb
      · cases ht)
    rw [seq_nx (show sIf _ _ mSkip env = .nx env from ifF t1), seq_nx (show sIf _ _ mSkip env = .nx env from ifF t2), seq_nx (show sIf _ _ mSkip env = .nx env from ifF t3), seq_nx (show sAsg 1 _ env = .nx env1 from asg_of cm), seq_nx (show sIf _ _ mSkip env1 = .nx env1 from ifF t4)]
    have full : (("(" : Str) ++ tx a ++ " " ++ w ++ " " ++ tx b ++ ")").length ≤ 200000 := full
    simp only [len_app, l1, l2, l3] at full
    rw [ret_of (addT (addT (addT (addT (addT (addT (x := "(") rfl (ix_v (i := 1) rfl (z := .str (tx a)) rfl) ?_) rfl ?_) (ix_c rfl (z := .str w) rfl) ?_) rfl ?_) (ix_v (i := 1) rfl (z := .str (tx b)) rfl) ?_) rfl ?_)]
    · rfl
    all_goals (simp only [len_app, l1, l2, l3]; omega)
  | when a b c iha ihb ihc =>
    intro n s o e e7
    have full := tx_len7 s o (by omega)
    unfold okL at o
    unfold ht at e e7
    rw [Bool.and_eq_true, Bool.and_eq_true] at o
    obtain ⟨k, rfl⟩ : ∃ k, n = k + 1 := ⟨n - 1, by omega⟩
    have ra := iha k s.1 o.1 (by omega) (by omega)
    have rb := ihb k s.2.1 o.2.1 (by omega) (by omega)
    have rc := ihc k s.2.2 o.2.2 (by omega) (by omega)
    let env : SEnv := [some (.val (.tuple [.str "when", tmD a, tmD b, tmD c])), none, none]
    let env1 : SEnv := [some (.val (.tuple [.str "when", tmD a, tmD b, tmD c])), some (.val (.list [.str (tx a), .str (tx b), .str (tx c)])), none]
    show outR (m_law_term_text (g_law_term_text (k + 1)) env) = _
    unfold m_law_term_text
    have t1 := num_ne (w := "when") (by decide +kernel) (E := vis env) (r := [tmD a, tmD b, tmD c]) rfl
    have t2 : mT (m1 (gIsi "str") (m2 gIx (mVar 0) (mC (.int 1)))) (vis env) = .ok false := mT_of (m1_of (g := gIsi "str") (ix_c rfl (z := tmD a) rfl) (tm_str a))
    have t3 : mT (m2 gEq (mB gLen (mCons (mVar 0) mNil)) (mC (.int 2))) (vis env) = .ok false := mT_of (m2_of (mB_of (cons_of (var_of rfl) rfl) (z := .int 4) rfl) rfl (eq_ints 4 2))
    have t4 : mT (m2 gEq (mB gLen (mCons (mVar 0) mNil)) (mC (.int 4))) (vis env1) = .ok true := mT_of (m2_of (mB_of (cons_of (var_of rfl) rfl) (z := .int 4) rfl) rfl (eq_ints 4 4))
    have cm := comp_map (f1 := tmD) (f2 := fun t => .str (tx t)) (j := 2) (f := mCallN 1 (g_law_term_text (k + 1)) (mCons (mVar 2) mNil)) (l := [a, b, c]) (tail_of (x := .str "when") (r := [tmD a, tmD b, tmD c]) (E := hid env) rfl) (by simp) (fun t ht => by
      rcases List.mem_cons.mp ht with rfl | ht
      · exact (call1 (var_of rfl)).trans ra
      rcases List.mem_cons.mp ht with rfl | ht
      · exact (call1 (var_of rfl)).trans rb
      rcases List.mem_cons.mp ht with rfl | ht
      · exact (call1 (var_of rfl)).trans rc
      · cases ht)
    rw [seq_nx (show sIf _ _ mSkip env = .nx env from ifF t1), seq_nx (show sIf _ _ mSkip env = .nx env from ifF t2), seq_nx (show sIf _ _ mSkip env = .nx env from ifF t3), seq_nx (show sAsg 1 _ env = .nx env1 from asg_of cm)]
    have full : (("(when " : Str) ++ tx a ++ " then " ++ tx b ++ " else " ++ tx c ++ ")").length ≤ 200000 := full
    simp only [len_app, l3, l5, l6, l7] at full
    rw [seq_ret (show sIf _ _ _ env1 = .ret (.str (("(when " : Str) ++ tx a ++ " then " ++ tx b ++ " else " ++ tx c ++ ")")) from ifT t4 (ret_of (addT (addT (addT (addT (addT (addT (x := "(when ") rfl (ix_v (i := 1) rfl (z := .str (tx a)) rfl) (by simp only [len_app, l5]; omega)) rfl (by simp only [len_app, l5, l6]; omega)) (ix_v (i := 1) rfl (z := .str (tx b)) rfl) (by simp only [len_app, l5, l6]; omega)) rfl (by simp only [len_app, l5, l6, l7]; omega)) (ix_v (i := 1) rfl (z := .str (tx c)) rfl) (by simp only [len_app, l5, l6, l7]; omega)) rfl (by simp only [len_app, l3, l5, l6, l7]; omega))))]
    rfl
theorem law_term_text_of {t : Tm} (s : Syn t) (o : okL t = true) (e : ht t ≤ 7) : g_law_term_text 12 [tmD t] = .ok (.str (tx t)) := ltt_of t 11 s o (by omega) e
end K70
namespace K70
open PySem IL
/-! ### plain: what is read, as a function -/
def numIn (x : Str) : Option Int := match g_number_in [.str x] with
  | .ok (.int n) => some n
  | _ => none
def pInner (p : Nat → Option (Tm × Nat)) (ws : List Str) (i : Nat) : Option (Tm × Nat) :=
  if ws[i]? = some ("when" : Str) then (p (i + 1)).bind fun q => if ws[q.2]? = some ("then" : Str) then (p (q.2 + 1)).bind fun r => if ws[r.2]? = some ("else" : Str) then (p (r.2 + 1)).bind fun s => some (.when q.1 r.1 s.1, s.2) else none else none
  else (p i).bind fun q => (ws[q.2]?).bind fun w => if w ∈ twos then (p (q.2 + 1)).bind fun r => some (.two w q.1 r.1, r.2) else none
def pTerm : Nat → Nat → List Str → Nat → Option (Tm × Nat)
  | 0, _, _, _ => none
  | n + 1, d, ws, i => if d < 8 then (ws[i]?).bind fun w =>
      if w ∈ reads then (ws[i + 1]?).bind fun x => some (.rd w (pathIn x), i + 2)
      else if w = "look" then (ws[i + 1]?).bind fun x => some (.look x, i + 2)
      else if w = "(" then (pInner (pTerm n (d + 1) ws) ws (i + 1)).bind fun q => if ws[q.2]? = some (")" : Str) then some (q.1, q.2 + 1) else none
      else (numIn w).bind fun v => some (.num v, i + 1)
    else none
def toR : Option (Tm × Nat) → Res (D × Nat)
  | some (t, j) => .ok (tmD t, j)
  | none => .exc .text
/-! one step behind another -/
section
variable {a b : SvR} {E e : IL.Env} {i j k : Nat} {d : D} {m : SRe} {c : XC}
theorem u_nx (h : a E i = .nx e j) : uSeq a b E i = b e j := by unfold uSeq; rw [h]
theorem u_ret (h : a E i = .ret d j) : uSeq a b E i = .ret d j := by unfold uSeq; rw [h]
theorem u_exc (h : a E i = .exc c) : uSeq a b E i = .exc c := by unfold uSeq; rw [h]
theorem uasg_of (h : m E i = .ok (d, j)) : uAsg k m E i = .nx (E.set k (some d)) j := by unfold uAsg; rw [h]; rfl
theorem uasg_exc (h : m E i = .exc c) : uAsg k m E i = .exc c := by unfold uAsg; rw [h]; rfl
theorem uexp_of (h : m E i = .ok (d, j)) : uExpr m E i = .nx E j := by unfold uExpr; rw [h]; rfl
theorem uexp_exc (h : m E i = .exc c) : uExpr m E i = .exc c := by unfold uExpr; rw [h]; rfl
theorem uret_of (h : m E i = .ok (d, j)) : uRet m E i = .ret d j := by unfold uRet; rw [h]; rfl
theorem uret_exc (h : m E i = .exc c) : uRet m E i = .exc c := by unfold uRet; rw [h]; rfl
theorem uif_t {t : IL.Env → Res Bool} (h : t E = .ok true) : uIf t a b E i = a E i := by unfold uIf; rw [h]; rfl
theorem uif_f {t : IL.Env → Res Bool} (h : t E = .ok false) : uIf t a b E i = b E i := by unfold uIf; rw [h]; rfl
theorem uif_fs {t : IL.Env → Res Bool} (h : t E = .ok false) : uIf t a uSkip E i = .nx E i := (uif_f h).trans rfl
theorem r0_of {m : Ev} (h : m E = .ok d) : r0 m E i = .ok (d, i) := by unfold r0; rw [h]; rfl
theorem r0_exc {m : Ev} (h : m E = .exc c) : r0 m E i = .exc c := by unfold r0; rw [h]; rfl
theorem one_of (h : m E i = .ok (d, j)) : raOne m E i = .ok ([d], j) := by unfold raOne; rw [h]; rfl
theorem one_exc (h : m E i = .exc c) : raOne m E i = .exc c := by unfold raOne; rw [h]; rfl
theorem rac_of {ma : Ev} {ms : IL.Env → Nat → Res (List D × Nat)} {ds : List D} (h : ma E = .ok d) (h' : ms E i = .ok (ds, j)) : raCons ma ms E i = .ok (d :: ds, j) := by
  unfold raCons
  rw [h]
  show (ms E i).bind _ = _
  rw [h']
  rfl
theorem rac_exc {ma : Ev} {ms : IL.Env → Nat → Res (List D × Nat)} (h : ma E = .ok d) (h' : ms E i = .exc c) : raCons ma ms E i = .exc c := by
  unfold raCons
  rw [h]
  show (ms E i).bind _ = _
  rw [h']
  rfl
theorem tup_of {ms : IL.Env → Nat → Res (List D × Nat)} {ds : List D} (h : ms E i = .ok (ds, j)) (hb : ds.length ≤ 9 := by exact of_decide_eq_true rfl) : rTup ms E i = .ok (.tuple ds, j) := by
  unfold rTup
  rw [h]
  show (ofO (if big ds.length = true then some (PyData.tuple ds) else none)).bind _ = _
  rw [if_pos (show big ds.length = true from decide_eq_true (by omega))]
  rfl
theorem tup_exc {ms : IL.Env → Nat → Res (List D × Nat)} (h : ms E i = .exc c) : rTup ms E i = .exc c := by unfold rTup; rw [h]; rfl
theorem rcall_of {g : List D → Res D} {z : D} (h : m E i = .ok (d, j)) (h' : g [d] = .ok z) : rCall1 g m E i = .ok (z, j) := by
  unfold rCall1
  rw [h]
  show (g [d]).bind _ = _
  rw [h']
  rfl
theorem rcall_exc {g : List D → Res D} (h : m E i = .exc c) : rCall1 g m E i = .exc c := by unfold rCall1; rw [h]; rfl
theorem rcall_exc2 {g : List D → Res D} (h : m E i = .ok (d, j)) (h' : g [d] = .exc c) : rCall1 g m E i = .exc c := by
  unfold rCall1
  rw [h]
  show (g [d]).bind _ = _
  rw [h']
  rfl
end
/-! the next word -/
theorem next_of {ws : List Str} {i : Nat} {x : Str} (h : ws[i]? = some x) : g_rnext ws [] i = .ok (.str x, i + 1) := by
  have hl : i < ws.length := (List.getElem?_eq_some_iff.mp h).1
  let E : IL.Env := [none]
  have t : rOp2 gLt (fun _ i => .ok (.int i, i)) (rB1 gLen (fun _ i => .ok (.list (ws.map .str), i))) E i = .ok (.bool true, i) := by
    show Res.ok (PyData.bool (decide ((i : Int) < ((ws.map PyData.str).length : Int))), i) = _
    rw [decide_eq_true (by rw [List.length_map]; omega)]
  have s0 : uExpr (rCall1 g_need_text (rOp2 gLt (fun _ i => .ok (.int i, i)) (rB1 gLen (fun _ i => .ok (.list (ws.map .str), i))))) E i = .nx E i := uexp_of (rcall_of t (need_tx true))
  have s1 : uSpot (rOp2 gAdd (fun _ i => .ok (.int i, i)) (r0 (mC (.int 1)))) E i = .nx E (i + 1) := rfl
  have hz : gIx (.list (ws.map .str)) (.int (((i + 1 : Nat) : Int) - 1)) = some (.str x) := by
    rw [show ((i + 1 : Nat) : Int) - 1 = (i : Int) by omega]
    exact L2.atI_nat (xs := ws.map PyData.str) (by rw [List.getElem?_map, h]; rfl)
  have s2 : rOp2 gIx (fun _ i => .ok (.list (ws.map .str), i)) (rOp2 gSub (fun _ i => .ok (.int i, i)) (r0 (mC (.int 1)))) E (i + 1) = .ok (.str x, i + 1) := by
    show (ofO (gIx (.list (ws.map .str)) (.int (((i + 1 : Nat) : Int) - 1)))).bind (fun z => Res.ok (z, i + 1)) = _
    rw [hz]
    rfl
  show outRR (m_rnext ws E i) = _
  unfold m_rnext
  rw [u_nx s0, u_nx s1, uret_of s2]
  rfl
theorem next_end {ws : List Str} {i : Nat} (h : ws[i]? = none) : g_rnext ws [] i = .exc .text := by
  have hl : ws.length ≤ i := List.getElem?_eq_none_iff.mp h
  let E : IL.Env := [none]
  have t : rOp2 gLt (fun _ i => .ok (.int i, i)) (rB1 gLen (fun _ i => .ok (.list (ws.map .str), i))) E i = .ok (.bool false, i) := by
    show Res.ok (PyData.bool (decide ((i : Int) < ((ws.map PyData.str).length : Int))), i) = _
    rw [decide_eq_false (by rw [List.length_map]; omega)]
  have s0 : uExpr (rCall1 g_need_text (rOp2 gLt (fun _ i => .ok (.int i, i)) (rB1 gLen (fun _ i => .ok (.list (ws.map .str), i))))) E i = .exc .text := uexp_exc (rcall_exc2 t (need_tx false))
  show outRR (m_rnext ws E i) = _
  unfold m_rnext
  rw [u_exc s0]
  rfl
theorem take_of {ws : List Str} {i : Nat} {x : Str} (E : IL.Env) : rMeth g_rtake ws (mCons (mC (.str x)) mNil) E i = if ws[i]? = some x then .ok (.none, i + 1) else .exc .text := by
  show outRR (uExpr (rCall1 g_need_text (rOp gEq (fun _ i => g_rnext ws [] i) (mVar 1))) [none, some (.str x)] i) = _
  cases h : ws[i]? with
  | none =>
    rw [if_neg (by intro z; cases z)]
    rw [uexp_exc (c := .text) (rcall_exc (by unfold rOp; show rBind (g_rnext ws [] i) _ = _; rw [next_end h]; rfl))]
    rfl
  | some y =>
    have t : rOp gEq (fun _ i => g_rnext ws [] i) (mVar 1) [none, some (.str x)] i = .ok (.bool (y == x), i + 1) := by
      unfold rOp
      show rBind (g_rnext ws [] i) _ = _
      rw [next_of h]
      show (ofO (gEq (.str y) (.str x))).bind (fun z => Res.ok (z, i + 1)) = _
      rw [eq_strs]
      rfl
    by_cases hy : y = x
    · rw [if_pos (by rw [hy]), uexp_of (rcall_of t (by rw [need_tx, hy, beq_self_eq_true, if_pos rfl]))]
      rfl
    · rw [if_neg (fun z => hy (Option.some.inj z)), uexp_exc (c := .text) (rcall_exc2 t (by rw [need_tx, beq_false_of_ne hy, if_neg Bool.false_ne_true]))]
      rfl
theorem eqL_strs (p q : List Str) : gEq (.list (p.map .str)) (.list (q.map .str)) = some (.bool (decide (p = q))) := by
  have h1 : ∀ p : List Str, (PyData.list (p.map .str)).plain = true := fun p => by rw [PyData.plain]; exact plain_strs p
  have h3 : decide ((PyData.list (q.map PyData.str)).depth ≤ 60) = true := decide_eq_true (by rw [PyData.depth, depth_strs]; omega)
  unfold gEq gEqB
  rw [h1, h1, h3, Bool.or_true, if_pos (by rfl), PyData.eqv, eqvAll_strs]
  rfl
theorem cut_one (ws : List Str) (i : Nat) : gSl (.list (ws.map .str)) (some (i : Int)) (some ((i : Int) + 1)) = some (.list ((ws[i]?.toList).map .str)) := by
  show some (PyData.list (cutL (ws.map .str) (some (i : Int)) (some ((i : Int) + 1)))) = _
  rw [show (i : Int) + 1 = ((i + 1 : Nat) : Int) by omega]
  unfold cutL
  rw [HT.sIx_nat, HT.sIx_nat, List.length_map]
  cases h : ws[i]? with
  | none =>
    have hl : ws.length ≤ i := List.getElem?_eq_none_iff.mp h
    rw [Nat.min_eq_right hl, Nat.min_eq_right (by omega), Nat.sub_self, List.take_zero]
    rfl
  | some x =>
    obtain ⟨hl, hx⟩ := List.getElem?_eq_some_iff.mp h
    rw [Nat.min_eq_left (by omega), Nat.min_eq_left (by omega), show i + 1 - i = 1 by omega, ← List.map_drop, List.drop_eq_getElem_cons hl, hx]
    rfl
theorem when_of (ws : List Str) (E : IL.Env) (i : Nat) : rOp2 gEq (rSl (fun _ i => .ok (.list (ws.map .str), i)) (fun _ i => .ok (.int i, i)) (rOp2 gAdd (fun _ i => .ok (.int i, i)) (r0 (mC (.int 1))))) (r0 (mB gLst (mCons (mC (.str "when")) mNil))) E i = .ok (.bool (decide (ws[i]? = some ("when" : Str))), i) := by
  have h1 : rSl (fun _ i => .ok (.list (ws.map .str), i)) (fun _ i => .ok (.int i, i)) (rOp2 gAdd (fun _ i => .ok (.int i, i)) (r0 (mC (.int 1)))) E i = .ok (.list ((ws[i]?.toList).map .str), i) := by
    show (ofO (gSl (.list (ws.map .str)) (some (i : Int)) (some ((i : Int) + 1)))).bind (fun z => Res.ok (z, i)) = _
    rw [cut_one]
    rfl
  show rBind (rSl (fun _ i => .ok (.list (ws.map .str), i)) (fun _ i => .ok (.int i, i)) (rOp2 gAdd (fun _ i => .ok (.int i, i)) (r0 (mC (.int 1)))) E i) _ = _
  rw [h1]
  show (ofO (gEq (.list ((ws[i]?.toList).map .str)) (.list (([("when" : Str)] : List Str).map .str)))).bind (fun z => Res.ok (z, i)) = _
  rw [eqL_strs]
  show Res.ok (PyData.bool (decide (ws[i]?.toList = [("when" : Str)])), i) = _
  have e : decide (ws[i]?.toList = [("when" : Str)]) = decide (ws[i]? = some ("when" : Str)) := by
    cases ws[i]? with
    | none => rfl
    | some x => exact decide_eq_decide.mpr ⟨fun z => by rw [(List.cons.inj z).1], fun z => by rw [Option.some.inj z]; rfl⟩
  rw [e]
theorem deep_of {g : List Str → List D → Nat → Res (D × Nat)} {ws : List Str} {E : IL.Env} {d i : Nat} (h : E[1]? = some (some (.int d))) : rMeth g ws deep1 E i = g ws [.int ((d + 1 : Nat) : Int)] i := by
  have e : deep1 E = .ok [.int ((d + 1 : Nat) : Int)] := cons_of (m2_of (var_of h) rfl rfl) rfl
  unfold rMeth
  rw [e]
  rfl
def toU : Option (Tm × Nat) → OutR
  | some (t, j) => .ret (tmD t) j
  | none => .exc .text
theorem toU_out (o : Option (Tm × Nat)) : outRR (toU o) = toR o := by
  cases o with
  | none => rfl
  | some q => rfl
theorem toU_seq {a b : SvR} {E : IL.Env} {i : Nat} {o : Option (Tm × Nat)} (h : a E i = toU o) : uSeq a b E i = toU o := by
  cases o with
  | none => exact u_exc h
  | some q => exact u_ret h
def inA (g : List Str → List D → Nat → Res (D × Nat)) (ws : List Str) : SvR := (uSeq (uExpr (rMeth g_rtake ws (mCons (mC (.str "when")) mNil)))
    (uSeq (uAsg 2 (rMeth g ws deep1))
    (uSeq (uExpr (rMeth g_rtake ws (mCons (mC (.str "then")) mNil)))
    (uSeq (uAsg 3 (rMeth g ws deep1))
    (uSeq (uExpr (rMeth g_rtake ws (mCons (mC (.str "else")) mNil)))
    (uRet (rTup (raCons (mC (.str "when")) (raCons (mVar 2) (raCons (mVar 3) (raOne (rMeth g ws deep1))))))))))))
def inB (g : List Str → List D → Nat → Res (D × Nat)) (ws : List Str) : SvR := (uSeq (uAsg 2 (rMeth g ws deep1))
  (uSeq (uAsg 4 (fun _ i => g_rnext ws [] i))
  (uSeq (uExpr (r0 (mCallN 1 g_need_text (mCons (m1 (gInT twos) (mVar 4)) mNil))))
  (uRet (rTup (raCons (mVar 4) (raCons (mVar 2) (raOne (rMeth g ws deep1)))))))))
def inT (ws : List Str) : SRe := rOp2 gEq (rSl (fun _ i => .ok (.list (ws.map .str), i)) (fun _ i => .ok (.int i, i)) (rOp2 gAdd (fun _ i => .ok (.int i, i)) (r0 (mC (.int 1))))) (r0 (mB gLst (mCons (mC (.str "when")) mNil)))
theorem rinner_eq (g : List Str → List D → Nat → Res (D × Nat)) (ws : List Str) : m_rinner g ws = uSeq (uIfR (inT ws) (inA g ws) uSkip) (inB g ws) := rfl
def pA (p : Nat → Option (Tm × Nat)) (ws : List Str) (i : Nat) : Option (Tm × Nat) := (p (i + 1)).bind fun q => if ws[q.2]? = some ("then" : Str) then (p (q.2 + 1)).bind fun r => if ws[r.2]? = some ("else" : Str) then (p (r.2 + 1)).bind fun s => some (.when q.1 r.1 s.1, s.2) else none else none
def pB (p : Nat → Option (Tm × Nat)) (ws : List Str) (i : Nat) : Option (Tm × Nat) := (p i).bind fun q => (ws[q.2]?).bind fun w => if w ∈ twos then (p (q.2 + 1)).bind fun r => some (.two w q.1 r.1, r.2) else none
theorem pInner_eq (p : Nat → Option (Tm × Nat)) (ws : List Str) (i : Nat) : pInner p ws i = if ws[i]? = some ("when" : Str) then pA p ws i else pB p ws i := rfl
section
variable {g : List Str → List D → Nat → Res (D × Nat)} {p : Nat → Option (Tm × Nat)} {ws : List Str} {d : Nat}
theorem inA_of (dp : ∀ {E : IL.Env} (i : Nat), E[1]? = some (some (.int d)) → rMeth g ws deep1 E i = toR (p i)) {i : Nat} (hw : ws[i]? = some ("when" : Str)) : inA g ws [none, some (.int d), none, none, none] i = toU (pA p ws i) := by
  unfold inA pA
  rw [u_nx (uexp_of ((take_of _).trans (if_pos hw)))]
  cases h1 : p (i + 1) with
  | none => exact u_exc (uasg_exc ((dp (i + 1) rfl).trans (by rw [h1]; rfl)))
  | some q =>
    obtain ⟨a, j⟩ := q
    rw [u_nx (uasg_of ((dp (i + 1) rfl).trans (by rw [h1]; rfl)))]
    dsimp only [Option.bind]
    by_cases ht : ws[j]? = some ("then" : Str)
    · rw [u_nx (uexp_of ((take_of _).trans (if_pos ht))), if_pos ht]
      cases h2 : p (j + 1) with
      | none => exact u_exc (uasg_exc ((dp (j + 1) rfl).trans (by rw [h2]; rfl)))
      | some r =>
        obtain ⟨b, k⟩ := r
        rw [u_nx (uasg_of ((dp (j + 1) rfl).trans (by rw [h2]; rfl)))]
        dsimp only [Option.bind]
        by_cases he : ws[k]? = some ("else" : Str)
        · rw [u_nx (uexp_of ((take_of _).trans (if_pos he))), if_pos he]
          cases h3 : p (k + 1) with
          | none => exact uret_exc (tup_exc (rac_exc rfl (rac_exc rfl (rac_exc rfl (one_exc ((dp (k + 1) rfl).trans (by rw [h3]; rfl)))))))
          | some s => exact uret_of (tup_of (rac_of rfl (rac_of rfl (rac_of rfl (one_of ((dp (k + 1) rfl).trans (by rw [h3]; rfl)))))))
        · rw [if_neg he]
          exact u_exc (uexp_exc ((take_of _).trans (if_neg he)))
    · rw [if_neg ht]
      exact u_exc (uexp_exc ((take_of _).trans (if_neg ht)))
theorem inB_of (dp : ∀ {E : IL.Env} (i : Nat), E[1]? = some (some (.int d)) → rMeth g ws deep1 E i = toR (p i)) (i : Nat) : inB g ws [none, some (.int d), none, none, none] i = toU (pB p ws i) := by
  unfold inB pB
  cases h1 : p i with
  | none => exact u_exc (uasg_exc ((dp i rfl).trans (by rw [h1]; rfl)))
  | some q =>
    obtain ⟨a, j⟩ := q
    rw [u_nx (uasg_of ((dp i rfl).trans (by rw [h1]; rfl)))]
    dsimp only [Option.bind]
    cases h2 : ws[j]? with
    | none => exact u_exc (uasg_exc (next_end h2))
    | some w =>
      rw [u_nx (uasg_of (next_of h2))]
      dsimp only
      show uSeq _ _ [none, some (.int d), some (tmD a), none, some (.str w)] (j + 1) = _
      have hn : mCallN 1 g_need_text (mCons (m1 (gInT twos) (mVar 4)) mNil) [none, some (.int d), some (tmD a), none, some (.str w)] = if decide (w ∈ twos) = true then .ok .none else .exc .text := (call1 (m1_of (var_of rfl) (inT_str twos w))).trans (need_tx _)
      by_cases hm : w ∈ twos
      · rw [decide_eq_true hm, if_pos rfl] at hn
        rw [u_nx (uexp_of (r0_of hn)), if_pos hm]
        cases h3 : p (j + 1) with
        | none => exact uret_exc (tup_exc (rac_exc rfl (rac_exc rfl (one_exc ((dp (j + 1) rfl).trans (by rw [h3]; rfl))))))
        | some s => exact uret_of (tup_of (rac_of rfl (rac_of rfl (one_of ((dp (j + 1) rfl).trans (by rw [h3]; rfl))))))
      · rw [decide_eq_false hm, if_neg Bool.false_ne_true] at hn
        rw [if_neg hm]
        exact u_exc (uexp_exc (r0_exc hn))
theorem inner_of (hp : ∀ i, g ws [.int ((d + 1 : Nat) : Int)] i = toR (p i)) (i : Nat) : g_rinner g ws [.int d] i = toR (pInner p ws i) := by
  have dp : ∀ {E : IL.Env} (i : Nat), E[1]? = some (some (.int d)) → rMeth g ws deep1 E i = toR (p i) := fun i h => (deep_of h).trans (hp i)
  show outRR (m_rinner g ws [none, some (.int d), none, none, none] i) = _
  rw [rinner_eq, pInner_eq]
  have hi : uIfR (inT ws) (inA g ws) uSkip [none, some (.int d), none, none, none] i = if ws[i]? = some ("when" : Str) then inA g ws [none, some (.int d), none, none, none] i else .nx [none, some (.int d), none, none, none] i := by
    unfold uIfR
    rw [show inT ws [none, some (.int d), none, none, none] i = _ from when_of ws _ i]
    by_cases hw : ws[i]? = some ("when" : Str)
    · rw [if_pos hw, decide_eq_true hw]; rfl
    · rw [if_neg hw, decide_eq_false hw]; rfl
  by_cases hw : ws[i]? = some ("when" : Str)
  · rw [if_pos hw] at hi ⊢
    rw [toU_seq (hi.trans (inA_of dp hw)), toU_out]
  · rw [if_neg hw] at hi ⊢
    rw [u_nx hi, inB_of dp, toU_out]
end
/-- a number, read -/
theorem num_in (x : Str) (h : x.length ≤ 100000) : g_number_in [.str x] = match numIn x with | some n => .ok (.int n) | none => .exc .text := by
  unfold numIn
  rcases number_any x h with e | ⟨n, e⟩
  · rw [e]
  · rw [e]
theorem term_walk : ∀ (n d : Nat) (ws : List Str) (i : Nat), (∀ w ∈ ws, w.length ≤ 100000) → d ≤ 8 → 9 ≤ n + 1 + d → g_rterm (n + 1) ws [.int d] i = toR (pTerm (n + 1) d ws i) := by
  intro n
  induction n with
  | zero =>
    intro d ws i hw hd hf
    have hd : d = 8 := by omega
    subst hd
    show outRR (m_rterm (g_rinner (g_rterm 0)) ws [none, some (.int 8), none, none] i) = _
    unfold m_rterm
    rw [u_exc (uexp_exc (c := .text) (r0_exc ((call1 (m2_of (var_of rfl) rfl rfl)).trans (need_tx false))))]
    rfl
  | succ n ih =>
    intro d ws i hw hd hf
    show outRR (m_rterm (g_rinner (g_rterm (n + 1))) ws [none, some (.int d), none, none] i) = _
    unfold m_rterm pTerm
    have hn : mCallN 1 g_need_text (mCons (m2 gLt (mVar 1) (mC (.int 8))) mNil) [none, some (.int d), none, none] = if decide ((d : Int) < 8) = true then .ok .none else .exc .text := (call1 (m2_of (var_of rfl) rfl rfl)).trans (need_tx _)
    by_cases h8 : d < 8
    · rw [decide_eq_true (by omega), if_pos rfl] at hn
      rw [u_nx (uexp_of (r0_of hn)), if_pos h8]
      cases h1 : ws[i]? with
      | none => rw [u_exc (uasg_exc (next_end h1))]; rfl
      | some w =>
        rw [u_nx (uasg_of (next_of h1))]
        dsimp only [Option.bind]
        show outRR (uSeq _ _ [none, some (.int d), some (.str w), none] (i + 1)) = _
        have lw := hw w (List.mem_of_getElem? h1)
        have t1 : mT (m1 (gInT reads) (mVar 2)) [none, some (.int d), some (.str w), none] = .ok (decide (w ∈ reads)) := mT_of (m1_of (var_of rfl) (inT_str reads w))
        have t2 : mT (m2 gEq (mVar 2) (mC (.str "look"))) [none, some (.int d), some (.str w), none] = .ok (w == "look") := mT_of (m2_of (var_of rfl) rfl (eq_strs w "look"))
        have t3 : mT (m2 gNe (mVar 2) (mC (.str "("))) [none, some (.int d), some (.str w), none] = .ok (!(w == "(")) := mT_of (m2_of (var_of rfl) rfl (ne_strs w "("))
        by_cases hr : w ∈ reads
        · rw [if_pos hr]
          rw [decide_eq_true hr] at t1
          cases h2 : ws[i + 1]? with
          | none => rw [toU_seq (o := none) ((uif_t t1).trans (uret_exc (tup_exc (rac_exc rfl (one_exc (rcall_exc (next_end h2)))))))]; rfl
          | some x => rw [toU_seq (o := some (.rd w (pathIn x), i + 2)) ((uif_t t1).trans (uret_of (tup_of (rac_of rfl (one_of (rcall_of (next_of h2) (path_in_of x (hw x (List.mem_of_getElem? h2)))))))))]; rfl
        · rw [if_neg hr]
          rw [decide_eq_false hr] at t1
          rw [u_nx (uif_fs t1)]
          by_cases hl : w = "look"
          · rw [if_pos hl]
            replace t2 := t2.trans (show Res.ok (w == ("look" : Str)) = Res.ok true by rw [hl, beq_self_eq_true])
            cases h2 : ws[i + 1]? with
            | none => rw [toU_seq (o := none) ((uif_t t2).trans (uret_exc (tup_exc (rac_exc rfl (one_exc (next_end h2))))))]; rfl
            | some x => rw [toU_seq (o := some (.look x, i + 2)) ((uif_t t2).trans (uret_of (tup_of (rac_of (d := .str "look") (by rw [← hl]; rfl) (one_of (next_of h2))))))]; rfl
          · rw [if_neg hl]
            rw [beq_false_of_ne hl] at t2
            rw [u_nx (uif_fs t2)]
            by_cases hb : w = "("
            · rw [if_pos hb]
              replace t3 := t3.trans (show Res.ok (!(w == ("(" : Str))) = Res.ok false by rw [hb, beq_self_eq_true]; rfl)
              rw [u_nx (uif_fs t3)]
              have hq : ∀ i, g_rterm (n + 1) ws [.int ((d + 1 : Nat) : Int)] i = toR (pTerm (n + 1) (d + 1) ws i) := fun i => ih (d + 1) ws i hw (by omega) (by omega)
              have hin : rMeth (g_rinner (g_rterm (n + 1))) ws (mCons (mVar 1) mNil) [none, some (.int d), some (.str w), none] (i + 1) = toR (pInner (pTerm (n + 1) (d + 1) ws) ws (i + 1)) := by
                unfold rMeth
                rw [show mCons (mVar 1) mNil [none, some (.int d), some (.str w), none] = .ok [.int d] from cons_of (var_of rfl) rfl]
                exact inner_of hq (i + 1)
              cases h2 : pInner (pTerm (n + 1) (d + 1) ws) ws (i + 1) with
              | none => rw [u_exc (uasg_exc (hin.trans (by rw [h2]; rfl)))]; rfl
              | some q =>
                rw [u_nx (uasg_of (hin.trans (by rw [h2]; rfl)))]
                dsimp only
                by_cases hp : ws[q.2]? = some (")" : Str)
                · rw [if_pos hp, u_nx (uexp_of ((take_of _).trans (if_pos hp))), uret_of (r0_of (var_of rfl))]
                  rfl
                · rw [if_neg hp, u_exc (uexp_exc ((take_of _).trans (if_neg hp)))]
                  rfl
            · rw [if_neg hb]
              rw [beq_false_of_ne hb] at t3
              have hm := num_in w lw
              cases h2 : numIn w with
              | none =>
                rw [h2] at hm
                rw [toU_seq (o := none) ((uif_t t3).trans (uret_exc (tup_exc (rac_exc rfl (one_exc (r0_exc ((call1 (var_of rfl)).trans hm)))))))]; rfl
              | some v =>
                rw [h2] at hm
                rw [toU_seq (o := some (.num v, i + 1)) ((uif_t t3).trans (uret_of (tup_of (rac_of rfl (one_of (r0_of ((call1 (var_of rfl)).trans hm)))))))]; rfl
    · rw [decide_eq_false (by omega), if_neg Bool.false_ne_true] at hn
      rw [u_exc (uexp_exc (r0_exc hn)), if_neg h8]
      rfl
end K70
namespace K70
open PySem IL
/-! ### plain: what is read is a term -/
theorem obind {α β : Type} {o : Option α} {f : α → Option β} {b : β} (h : o.bind f = some b) : ∃ a, o = some a ∧ f a = some b := Option.bind_eq_some_iff.mp h
theorem inner_syn {p : Nat → Option (Tm × Nat)} {ws : List Str} (hp : ∀ i q, p i = some q → Syn q.1) {i : Nat} {q : Tm × Nat} (h : pInner p ws i = some q) : Syn q.1 := by
  rw [pInner_eq] at h
  split at h
  · unfold pA at h
    obtain ⟨a, h1, h⟩ := obind h
    split at h
    · obtain ⟨b, h2, h⟩ := obind h
      split at h
      · obtain ⟨c, h3, h⟩ := obind h
        cases h
        exact ⟨hp _ _ h1, hp _ _ h2, hp _ _ h3⟩
      · cases h
    · cases h
  · unfold pB at h
    obtain ⟨a, h1, h⟩ := obind h
    obtain ⟨w, h2, h⟩ := obind h
    split at h
    · rename_i hw
      obtain ⟨b, h3, h⟩ := obind h
      cases h
      exact ⟨hw, hp _ _ h1, hp _ _ h3⟩
    · cases h
theorem term_syn {ws : List Str} (hw : ∀ w ∈ ws, w.length ≤ 100000) : ∀ (n d i : Nat) (q : Tm × Nat), pTerm n d ws i = some q → Syn q.1 := by
  intro n
  induction n with
  | zero => intro d i q h; cases h
  | succ n ih =>
    intro d i q h
    unfold pTerm at h
    split at h
    · obtain ⟨w, h1, h⟩ := obind h
      split at h
      · rename_i hr
        obtain ⟨x, h2, h⟩ := obind h
        cases h
        exact ⟨hr, pathIn_big (hw x (List.mem_of_getElem? h2))⟩
      · split at h
        · obtain ⟨x, h2, h⟩ := obind h
          cases h
          exact Nat.le_trans (hw x (List.mem_of_getElem? h2)) (by decide)
        · split at h
          · obtain ⟨r, h2, h⟩ := obind h
            have hs := inner_syn (fun i q => ih (d + 1) i q) h2
            split at h
            · cases h
              exact hs
            · cases h
          · obtain ⟨v, h2, h⟩ := obind h
            cases h
            exact trivial
    · cases h
/-! ### a term's own words -/
def toks : Tm → List Str
  | .num v => [num v]
  | .rd w p => [w, pathTx p]
  | .look w => [("look" : Str), w]
  | .two w a b => ("(" : Str) :: (toks a ++ (w :: (toks b ++ [(")" : Str)])))
  | .when a b c => ("(" : Str) :: ("when" : Str) :: (toks a ++ (("then" : Str) :: (toks b ++ (("else" : Str) :: (toks c ++ [(")" : Str)])))))
def kept : List Str := reads ++ [("look" : Str), ("(" : Str), ("when" : Str)]
theorem kept_sign : ∀ w ∈ kept, ∃ k ∈ sg w, k ≠ 45 ∧ (k < 48 ∨ 57 < k) := by decide +kernel
theorem num_kept (v : Int) : num v ∉ kept := fun h => by
  obtain ⟨k, h1, h2⟩ := kept_sign _ h
  exact num_free k h2 v h1
theorem num_reads (v : Int) : num v ∉ reads := fun h => num_kept v (List.mem_append_left _ h)
theorem num_look (v : Int) : num v ≠ "look" := fun h => num_kept v (by rw [h]; decide +kernel)
theorem num_lp (v : Int) : num v ≠ "(" := fun h => num_kept v (by rw [h]; decide +kernel)
theorem num_when (v : Int) : num v ≠ "when" := fun h => num_kept v (by rw [h]; decide +kernel)
theorem reads_when : ∀ w ∈ reads, w ≠ "when" := by decide +kernel
theorem toks_head : ∀ t : Tm, Syn t → ∃ h r, toks t = h :: r ∧ h ≠ "when"
  | .num v, _ => ⟨_, _, rfl, num_when v⟩
  | .rd w p, s => ⟨_, _, rfl, reads_when w s.1⟩
  | .look w, _ => ⟨_, _, rfl, by decide +kernel⟩
  | .two w a b, _ => ⟨_, _, rfl, by decide +kernel⟩
  | .when a b c, _ => ⟨_, _, rfl, by decide +kernel⟩
theorem drop_cons {ws : List Str} {i : Nat} {x : Str} {r : List Str} (h : ws.drop i = x :: r) : ws[i]? = some x ∧ ws.drop (i + 1) = r := by
  constructor
  · have := congrArg (fun l => l[0]?) h
    simpa using this
  · rw [← List.drop_drop, h]
    rfl
theorem drop_app {ws : List Str} {i : Nat} {a b : List Str} (h : ws.drop i = a ++ b) : ws.drop (i + a.length) = b := by
  rw [← List.drop_drop, h, List.drop_left]
theorem num_back {v : Int} (h : v.natAbs ≤ 1000000000) : numIn (num v) = some v := by
  unfold numIn
  rw [number_of (by omega)]
theorem term_exact : ∀ (t : Tm) (n d i : Nat) (ws post : List Str), Syn t → okL t = true → ht t ≤ n → d + ht t < 8 → ws.drop i = toks t ++ post → pTerm (n + 1) d ws i = some (t, i + (toks t).length) := by
  intro t
  induction t with
  | num v =>
    intro n d i ws post s o e e8 hd
    have hd : ws.drop i = num v :: post := hd
    obtain ⟨h1, h2⟩ := drop_cons hd
    have l : v.natAbs ≤ 1000000000 := of_decide_eq_true o
    unfold pTerm
    rw [if_pos (show d < 8 from e8), h1]
    dsimp only [Option.bind]
    rw [if_neg (num_reads v), if_neg (num_look v), if_neg (num_lp v), num_back l]
    rfl
  | rd w p =>
    intro n d i ws post s o e e8 hd
    have hd : ws.drop i = w :: pathTx p :: post := hd
    obtain ⟨h1, h2⟩ := drop_cons hd
    obtain ⟨h3, h4⟩ := drop_cons h2
    unfold pTerm
    rw [if_pos (show d < 8 from e8), h1]
    dsimp only [Option.bind]
    rw [if_pos s.1, h3]
    dsimp only
    rw [pathIn_tx (p := p) o]
    rfl
  | look w =>
    intro n d i ws post s o e e8 hd
    have hd : ws.drop i = ("look" : Str) :: w :: post := hd
    obtain ⟨h1, h2⟩ := drop_cons hd
    obtain ⟨h3, h4⟩ := drop_cons h2
    unfold pTerm
    rw [if_pos (show d < 8 from e8), h1]
    dsimp only [Option.bind]
    rw [if_neg (by decide +kernel), if_pos rfl, h3]
    rfl
  | two w a b iha ihb =>
    intro n d i ws post s o e e8 hd
    unfold okL at o
    unfold ht at e e8
    rw [Bool.and_eq_true] at o
    obtain ⟨k, rfl⟩ : ∃ k, n = k + 1 := ⟨n - 1, by omega⟩
    have hd : ws.drop i = ("(" : Str) :: (toks a ++ (w :: (toks b ++ [(")" : Str)]))) ++ post := hd
    have hd : ws.drop i = ("(" : Str) :: (toks a ++ (w :: (toks b ++ ((")" : Str) :: post)))) := by rw [hd]; simp
    obtain ⟨h1, h2⟩ := drop_cons hd
    have h3 := drop_app h2
    obtain ⟨h4, h5⟩ := drop_cons h3
    have h6 := drop_app h5
    obtain ⟨h7, _⟩ := drop_cons h6
    have ra := iha k (d + 1) (i + 1) ws _ s.2.1 o.1 (by omega) (by omega) h2
    have rb := ihb k (d + 1) (i + 1 + (toks a).length + 1) ws _ s.2.2 o.2 (by omega) (by omega) h5
    obtain ⟨x, r, ht, hx⟩ := toks_head a s.2.1
    have hw : ws[i + 1]? ≠ some ("when" : Str) := by
      rw [ht] at h2
      rw [(drop_cons h2).1]
      exact fun z => hx (Option.some.inj z)
    have hi : pInner (pTerm (k + 1) (d + 1) ws) ws (i + 1) = some (.two w a b, i + 1 + (toks a).length + 1 + (toks b).length) := by
      rw [pInner_eq, if_neg hw]
      unfold pB
      rw [ra]
      dsimp only [Option.bind]
      rw [h4]
      dsimp only
      rw [if_pos s.1, rb]
    unfold pTerm
    rw [if_pos (show d < 8 by omega), h1]
    dsimp only [Option.bind]
    rw [if_neg (by decide +kernel), if_neg (by decide +kernel), if_pos rfl, hi]
    dsimp only
    rw [if_pos h7]
    have e : (toks (.two w a b)).length = (toks a).length + (toks b).length + 3 := by
      show (("(" : Str) :: (toks a ++ (w :: (toks b ++ [(")" : Str)])))).length = _
      simp only [List.length_cons, List.length_append, List.length_nil]
      omega
    rw [e]
    congr 2
    omega
  | when a b c iha ihb ihc =>
    intro n d i ws post s o e e8 hd
    unfold okL at o
    unfold ht at e e8
    rw [Bool.and_eq_true, Bool.and_eq_true] at o
    obtain ⟨k, rfl⟩ : ∃ k, n = k + 1 := ⟨n - 1, by omega⟩
    have hd : ws.drop i = ("(" : Str) :: ("when" : Str) :: (toks a ++ (("then" : Str) :: (toks b ++ (("else" : Str) :: (toks c ++ [(")" : Str)]))))) ++ post := hd
    have hd : ws.drop i = ("(" : Str) :: (("when" : Str) :: (toks a ++ (("then" : Str) :: (toks b ++ (("else" : Str) :: (toks c ++ ((")" : Str) :: post))))))) := by rw [hd]; simp
    obtain ⟨h1, h2⟩ := drop_cons hd
    obtain ⟨g1, g2⟩ := drop_cons h2
    have h3 := drop_app g2
    obtain ⟨h4, h5⟩ := drop_cons h3
    have h6 := drop_app h5
    obtain ⟨h7, h8⟩ := drop_cons h6
    have h9 := drop_app h8
    obtain ⟨h10, _⟩ := drop_cons h9
    have ra := iha k (d + 1) (i + 1 + 1) ws _ s.1 o.1 (by omega) (by omega) g2
    have rb := ihb k (d + 1) (i + 1 + 1 + (toks a).length + 1) ws _ s.2.1 o.2.1 (by omega) (by omega) h5
    have rc := ihc k (d + 1) (i + 1 + 1 + (toks a).length + 1 + (toks b).length + 1) ws _ s.2.2 o.2.2 (by omega) (by omega) h8
    have hi : pInner (pTerm (k + 1) (d + 1) ws) ws (i + 1) = some (.when a b c, i + 1 + 1 + (toks a).length + 1 + (toks b).length + 1 + (toks c).length) := by
      rw [pInner_eq, if_pos g1]
      unfold pA
      rw [ra]
      dsimp only [Option.bind]
      rw [if_pos h4, rb]
      dsimp only
      rw [if_pos h7, rc]
    unfold pTerm
    rw [if_pos (show d < 8 by omega), h1]
    dsimp only [Option.bind]
    rw [if_neg (by decide +kernel), if_neg (by decide +kernel), if_pos rfl, hi]
    dsimp only
    rw [if_pos h10]
    have e : (toks (.when a b c)).length = (toks a).length + (toks b).length + (toks c).length + 5 := by
      show (("(" : Str) :: ("when" : Str) :: (toks a ++ (("then" : Str) :: (toks b ++ (("else" : Str) :: (toks c ++ [(")" : Str)])))))).length = _
      simp only [List.length_cons, List.length_append, List.length_nil]
      omega
    rw [e]
    congr 2
    omega
/-! ### the words of a term's text -/
theorem reads_free : ∀ w ∈ reads, 32 ∉ sg w ∧ 40 ∉ sg w ∧ 41 ∉ sg w := by decide +kernel
theorem twos_free : ∀ w ∈ twos, 32 ∉ sg w ∧ 40 ∉ sg w ∧ 41 ∉ sg w := by decide +kernel
theorem words_reads {w : Str} (h : w ∈ reads) : IL.wordsOf w = [w] := words_one (reads_free w h).1 (reads_free w h).2.1 (reads_free w h).2.2
theorem words_twos {w : Str} (h : w ∈ twos) : IL.wordsOf w = [w] := words_one (twos_free w h).1 (twos_free w h).2.1 (twos_free w h).2.2
theorem words_when : IL.wordsOf ("when" : Str) = [("when" : Str)] := words_one (by decide +kernel) (by decide +kernel) (by decide +kernel)
theorem words_then : IL.wordsOf ("then" : Str) = [("then" : Str)] := words_one (by decide +kernel) (by decide +kernel) (by decide +kernel)
theorem words_else : IL.wordsOf ("else" : Str) = [("else" : Str)] := words_one (by decide +kernel) (by decide +kernel) (by decide +kernel)
theorem words_look : IL.wordsOf ("look" : Str) = [("look" : Str)] := words_one (by decide +kernel) (by decide +kernel) (by decide +kernel)
theorem s_when : ("(when " : Str) = "(" ++ ("when" ++ " ") := by decide +kernel
theorem s_then : (" then " : Str) = " " ++ "then" ++ " " := by decide +kernel
theorem s_else : (" else " : Str) = " " ++ "else" ++ " " := by decide +kernel
theorem words_tx : ∀ t : Tm, Syn t → okL t = true → IL.wordsOf (tx t) = toks t
  | .num v, _, _ => words_one (num_free 32 ⟨by decide, .inl (by decide)⟩ v) (num_free 40 ⟨by decide, .inl (by decide)⟩ v) (num_free 41 ⟨by decide, .inl (by decide)⟩ v)
  | .rd w p, s, o => by
    show IL.wordsOf (w ++ " " ++ pathTx p) = [w, pathTx p]
    rw [words_sp, words_reads s.1, words_one (pathTx_free (p := p) o 32 ⟨.inl (by decide), by decide⟩) (pathTx_free (p := p) o 40 ⟨.inl (by decide), by decide⟩) (pathTx_free (p := p) o 41 ⟨.inl (by decide), by decide⟩)]
    rfl
  | .look w, s, o => by
    show IL.wordsOf (("look" : Str) ++ " " ++ w) = [("look" : Str), w]
    rw [words_sp, words_look, words_one (word_free (x := w) o 32 (.inl (by decide))) (word_free (x := w) o 40 (.inl (by decide))) (word_free (x := w) o 41 (.inl (by decide)))]
    rfl
  | .two w a b, s, o => by
    unfold okL at o
    rw [Bool.and_eq_true] at o
    show IL.wordsOf (("(" : Str) ++ tx a ++ " " ++ w ++ " " ++ tx b ++ ")") = ("(" : Str) :: (toks a ++ (w :: (toks b ++ [(")" : Str)])))
    rw [words_rp, words_sp, words_sp, words_lp, words_tx a s.2.1 o.1, words_tx b s.2.2 o.2, words_twos s.1]
    simp
  | .when a b c, s, o => by
    unfold okL at o
    rw [Bool.and_eq_true, Bool.and_eq_true] at o
    show IL.wordsOf (("(when " : Str) ++ tx a ++ " then " ++ tx b ++ " else " ++ tx c ++ ")") = ("(" : Str) :: ("when" : Str) :: (toks a ++ (("then" : Str) :: (toks b ++ (("else" : Str) :: (toks c ++ [(")" : Str)])))))
    have e : ("(when " : Str) ++ tx a ++ " then " ++ tx b ++ " else " ++ tx c = (((("(" : Str) ++ ("when" ++ " " ++ tx a)) ++ " " ++ "then") ++ " " ++ tx b) ++ " " ++ "else" ++ " " ++ tx c := by
      rw [s_when, s_then, s_else]
      simp only [Str.append_assoc]
    rw [words_rp, e, words_sp, words_sp, words_sp, words_sp, words_lp, words_sp, words_when, words_then, words_else, words_tx a s.1 o.1, words_tx b s.2.1 o.2.1, words_tx c s.2.2 o.2.2]
    simp
/-! ### a text's words are few and short -/
theorem enc_len (x : Str) : (enc x).length ≤ 2 * x.length := by
  rw [len_sg, sg_enc, len_sg]
  generalize sg x = l
  induction l with
  | nil => exact Nat.zero_le _
  | cons k r ih =>
    rw [List.flatMap_cons, List.length_append, List.length_cons]
    have : (encK k).length ≤ 2 := by
      unfold encK
      split
      · decide
      · split <;> simp
    omega
theorem words_short {x : Str} (h : x.length ≤ 50000) : ∀ w ∈ IL.wordsOf x, w.length ≤ 100000 := fun w hw => by
  rw [words_is] at hw
  have h1 := split_len _ _ w hw
  have h2 := enc_len x
  omega
/-! ### a text, read -/
def readT (x : Str) : Option Tm := ((pTerm 9 0 (IL.wordsOf x) 0).map (·.1)).bind fun t => if validB 0 t = true ∧ tx t = x then some t else none
theorem term_in_of (x : Str) (h : x.length ≤ 50000) : g_term_in [.str x] = match readT x with | some t => .ok (tmD t) | none => .exc .text := by
  have hw := words_short h
  have walk := term_walk 8 0 (IL.wordsOf x) 0 hw (by decide) (by decide)
  let env : SEnv := [some (.val (.str x)), none]
  have s0 : sExpr (mCallN 1 g_need_text (mCons (m1 (gIsi "str") (mVar 0)) mNil)) env = .nx env := expr_of (is_str_tx rfl)
  have rd : mRead (g_rterm 9) (mVar 0) (hid env) = (toR (pTerm 9 0 (IL.wordsOf x) 0)).bind fun p => .ok p.1 := by
    unfold mRead
    show (if decide (x.length ≤ 100000) = true then (g_rterm 9 (IL.wordsOf x) [.int 0] 0).bind fun p => .ok p.1 else .stuck) = _
    rw [if_pos (decide_eq_true (by omega)), show g_rterm 9 (IL.wordsOf x) [.int 0] 0 = _ from walk]
  show outR (m_term_in env) = _
  unfold m_term_in readT
  rw [seq_nx s0]
  cases hp : pTerm 9 0 (IL.wordsOf x) 0 with
  | none =>
    rw [hp] at rd
    rw [seq_exc (show sAsg 1 _ env = .exc .text by unfold sAsg; rw [rd]; rfl)]
    rfl
  | some q =>
    rw [hp] at rd
    let env1 : SEnv := [some (.val (.str x)), some (.val (tmD q.1))]
    rw [seq_nx (show sAsg 1 _ env = .nx env1 from asg_of (rd.trans rfl))]
    have sy := term_syn hw 9 0 0 q hp
    have nt := need_term_of sy
    show outR (sTryR .look .text (sExpr (mCallN 1 g_need_term (mCons (mVar 1) mNil))) _ env1) = (match (if validB 0 q.1 = true ∧ tx q.1 = x then some q.1 else none) with | some t => .ok (tmD t) | none => .exc .text)
    unfold sTryR
    by_cases hv : validB 0 q.1 = true
    · rw [if_pos hv] at nt
      rw [expr_of ((call1 (var_of rfl)).trans nt)]
      dsimp only
      obtain ⟨o, e⟩ := valid_ok hv
      have tt := txt_of q.1 11 sy o (by omega) (by omega)
      have hn : mCallN 1 g_need_text (mCons (m2 gEq (mCallN 1 (g_text_of 12) (mCons (mVar 1) mNil)) (mVar 0)) mNil) (hid env1) = if (tx q.1 == x) = true then .ok .none else .exc .text := (call1 (m2_of ((call1 (var_of rfl)).trans tt) (var_of rfl) (eq_strs _ _))).trans (need_tx _)
      by_cases hx : tx q.1 = x
      · rw [hx, beq_self_eq_true, if_pos rfl] at hn
        rw [if_pos ⟨hv, hx⟩, seq_nx (expr_of hn), ret_of (var_of rfl)]
        rfl
      · rw [beq_false_of_ne hx, if_neg Bool.false_ne_true] at hn
        rw [if_neg (fun z => hx z.2), seq_exc (expr_exc hn)]
        rfl
    · rw [if_neg hv] at nt
      rw [expr_exc ((call1 (var_of rfl)).trans nt), if_neg (fun z => hv z.1)]
      rfl
theorem term_in_any (x : Str) (h : x.length ≤ 50000) : g_term_in [.str x] = .exc .text ∨ ∃ t, g_term_in [.str x] = .ok (tmD t) ∧ Syn t ∧ okL t = true ∧ ht t ≤ 7 ∧ tx t = x := by
  have z := term_in_of x h
  cases hr : readT x with
  | none => rw [hr] at z; exact .inl z
  | some t =>
    rw [hr] at z
    unfold readT at hr
    obtain ⟨u, h1, h2⟩ := obind hr
    obtain ⟨q, h3, rfl⟩ := Option.map_eq_some_iff.mp h1
    split at h2
    · rename_i hh
      cases h2
      obtain ⟨o, e⟩ := valid_ok hh.1
      exact .inr ⟨_, z, term_syn (words_short h) 9 0 0 q h3, o, by omega, hh.2⟩
    · cases h2
theorem term_in_back {t : Tm} (s : Syn t) (o : okL t = true) (e : ht t ≤ 4) : g_term_in [.str (tx t)] = .ok (tmD t) := by
  have l := tx_len4 s o e
  have z := term_in_of (tx t) (by omega)
  have hp := term_exact t 8 0 0 (IL.wordsOf (tx t)) [] s o (by omega) (by omega) (by rw [words_tx t s o]; simp)
  have hr : readT (tx t) = some t := by
    unfold readT
    rw [hp]
    show (if validB 0 t = true ∧ tx t = tx t then some t else none) = _
    rw [if_pos ⟨ok_valid o (by omega), rfl⟩]
  rw [hr] at z
  exact z
end K70
namespace K70
open PySem IL
/-! ### plain: what is drawn is a term -/
def ltH : Sv := (sAsg 3 (m2 gDiv (mVar 0) (mC (.int 16))))
def ltC : IL.Env → Res Bool := (mOr (mT (m2 gEq (mVar 1) (mC (.int 0)))) (mT (m2 gEq (m2 gMod (mVar 0) (mC (.int 4))) (mC (.int 0)))))
def ltA : Sv := (sIf (mAnd (mT (m2 gNe (mVar 2) (mB gLst mNil))) (mT (m2 gEq (m2 gMod (mVar 3) (mC (.int 3))) (mC (.int 0))))) (sRet (mB gTup (mCons (mC (.str "look")) (mCons (m2 gIx (mVar 2) (m2 gMod (m2 gDiv (mVar 3) (mC (.int 4))) (mB gLen (mCons (mVar 2) mNil)))) mNil)))) mSkip)
def ltB : Sv := (sIf (mT (m2 gEq (m2 gMod (mVar 3) (mC (.int 7))) (mC (.int 0)))) (sRet (mB gTup (mCons (mC (.str "num")) (mCons (m2 gIx (mB gLst (mCons (m2 gMod (m2 gDiv (mVar 3) (mC (.int 8))) (mC (.int 10))) (mCons (m2 gSub (mC (.int 0)) (m2 gMod (m2 gDiv (mVar 3) (mC (.int 8))) (mC (.int 9)))) (mCons (mC (.int 1000000000)) mNil)))) (m2 gMod (m2 gDiv (mVar 3) (mC (.int 128))) (mC (.int 3)))) mNil)))) mSkip)
def ltL : Sv := (sRet (mB gTup (mCons (m2 gIx (mB gLst (mCons (mC (.str "at")) (mCons (mC (.str "sum")) (mCons (mC (.str "many")) (mCons (mC (.str "there")) (mCons (mC (.str "at")) mNil)))))) (m2 gMod (m2 gDiv (mVar 3) (mC (.int 8))) (mC (.int 5)))) (mCons (mCallN 2 g_law_path (mCons (mCallN 2 g_law_drawn (mCons (mVar 3) (mCons (mC (.int 1)) mNil))) (mCons (mC (.int 3)) mNil))) mNil))))
def lt4 (g_rec : List D → Res D) : Sv := (sAsg 4 (mComp (mRng (mCons (mC (.int 3)) mNil)) 6 mYes (mCallN 3 g_rec (mCons (mCallN 2 g_law_drawn (mCons (mVar 3) (mCons (mVar 6) mNil))) (mCons (m2 gSub (mVar 1) (mC (.int 1))) (mCons (mVar 2) mNil))))))
def lt5 : Sv := (sAsg 5 (m2 gMod (mVar 3) (mC (.int 8))))
def lt6 : Sv := (sIf (mT (m2 gLt (mVar 5) (mC (.int 5)))) (sRet (mB gTup (mCons (m2 gIx (mB gLst (mCons (mC (.str "plus")) (mCons (mC (.str "less")) (mCons (mC (.str "times")) (mCons (mC (.str "same")) (mCons (mC (.str "below")) mNil)))))) (mVar 5)) (mCons (m2 gIx (mVar 4) (mC (.int 0))) (mCons (m2 gIx (mVar 4) (mC (.int 1))) mNil))))) mSkip)
def lt7 : Sv := (sRet (mB gTup (mCons (mC (.str "when")) (mCons (m2 gIx (mVar 4) (mC (.int 0))) (mCons (m2 gIx (mVar 4) (mC (.int 1))) (mCons (m2 gIx (mVar 4) (mC (.int 2))) mNil))))))
theorem m_law_term_eq (g : List D → Res D) : m_law_term g = mSeq ltH (mSeq (sIf ltC (mSeq ltA (mSeq ltB ltL)) mSkip) (mSeq (lt4 g) (mSeq lt5 (mSeq lt6 lt7)))) := rfl

def nms3 : List Str := ["a", "look", "when"]
def nms : D := .list (nms3.map .str)
structure Gt (t : Tm) (k : Nat) : Prop where
  syn : Syn t
  ok : okL t = true
  ht : ht t ≤ k
def ltE (m h : Int) (k : Nat) : SEnv := [some (.val (.int m)), some (.val (.int k)), some (.val nms), some (.val (.int h)), none, none, none]
theorem dv {E : IL.Env} {h : Int} (hv : E[3]? = some (some (.int h))) {n : Int} (h1 : 0 < n) (h2 : n.natAbs < 2 ^ 100) : m2 gDiv (mVar 3) (mC (.int n)) E = .ok (.int (h / n)) := m2_of (var_of hv) rfl (gDiv_of h1 (Nat.lt_of_lt_of_le h2 (Nat.pow_le_pow_right (by decide) (by decide))))
theorem word3 : ∀ x ∈ nms3, wordB x = true ∧ x.length ≤ 1000000 := by decide +kernel
theorem mem_strs {ws : List Str} {d : D} (h : d ∈ ws.map PyData.str) : ∃ x ∈ ws, d = .str x := let ⟨x, h1, h2⟩ := List.mem_map.mp h; ⟨x, h1, h2.symm⟩
theorem law_path_fine (m : Int) : ∃ p : Pth, g_law_path [.int m, .int 3] = .ok (pathD p) ∧ pathB p = true ∧ BigP p := by
  obtain ⟨p, h1, h2, h3⟩ := law_path_of m
  refine ⟨p, h1, ?_, decide_eq_true (by omega), fun x hx => abc_big x (h3 x hx)⟩
  unfold pathB
  rw [show p.all wordB = true from List.all_eq_true.mpr fun x hx => abc_word x (h3 x hx), decide_eq_true (by omega)]
  rfl
theorem leafA (m h : Int) (k : Nat) : ltA (ltE m h k) = .nx (ltE m h k) ∨ ∃ t, ltA (ltE m h k) = .ret (tmD t) ∧ Gt t k := by
  have c1 : mT (m2 gNe (mVar 2) (mB gLst mNil)) (vis (ltE m h k)) = .ok true := mT_of (m2_of (var_of rfl) rfl (show gNe nms (.list []) = some (.bool true) from rfl))
  have c2 : mT (m2 gEq (m2 gMod (mVar 3) (mC (.int 3))) (mC (.int 0))) (vis (ltE m h k)) = .ok (h % 3 == 0) := mT_of (m2_of (m2_of (var_of rfl) rfl (gMod_of (by decide))) rfl (eq_ints _ _))
  have c3 : mAnd (mT (m2 gNe (mVar 2) (mB gLst mNil))) (mT (m2 gEq (m2 gMod (mVar 3) (mC (.int 3))) (mC (.int 0)))) (vis (ltE m h k)) = .ok (h % 3 == 0) := by
    unfold mAnd
    rw [c1]
    exact c2
  cases hb : h % 3 == 0 with
  | false => rw [hb] at c3; exact .inl (ifF c3)
  | true =>
    rw [hb] at c3
    right
    obtain ⟨d, hd, e⟩ := ix_mod (ds := nms3.map .str) (by decide) (h / 4)
    obtain ⟨x, hx, rfl⟩ := mem_strs hd
    obtain ⟨w1, w2⟩ := word3 x hx
    have hl : mB gLen (mCons (mVar 2) mNil) (hid (ltE m h k)) = .ok (.int 3) := mB_of (cons_of (var_of rfl) rfl) rfl
    have hi : m2 gIx (mVar 2) (m2 gMod (m2 gDiv (mVar 3) (mC (.int 4))) (mB gLen (mCons (mVar 2) mNil))) (hid (ltE m h k)) = .ok (.str x) :=
      m2_of (var_of rfl) (m2_of (dv rfl (by decide) (by decide)) hl (gMod_of (by decide))) e
    exact ⟨.look x, ifT c3 (ret_of (mB_of (cons_of rfl (cons_of hi rfl)) rfl)), w2, w1, Nat.zero_le _⟩
theorem leafB (m h : Int) (k : Nat) : ltB (ltE m h k) = .nx (ltE m h k) ∨ ∃ t, ltB (ltE m h k) = .ret (tmD t) ∧ Gt t k := by
  have c3 : mT (m2 gEq (m2 gMod (mVar 3) (mC (.int 7))) (mC (.int 0))) (vis (ltE m h k)) = .ok (h % 7 == 0) := mT_of (m2_of (m2_of (var_of rfl) rfl (gMod_of (by decide))) rfl (eq_ints _ _))
  cases hb : h % 7 == 0 with
  | false => rw [hb] at c3; exact .inl (ifF c3)
  | true =>
    rw [hb] at c3
    right
    have a1 : m2 gMod (m2 gDiv (mVar 3) (mC (.int 8))) (mC (.int 10)) (hid (ltE m h k)) = .ok (.int (h / 8 % 10)) := m2_of (dv rfl (by decide) (by decide)) rfl (gMod_of (by decide))
    have a2 : m2 gSub (mC (.int 0)) (m2 gMod (m2 gDiv (mVar 3) (mC (.int 8))) (mC (.int 9))) (hid (ltE m h k)) = .ok (.int (0 - h / 8 % 9)) := m2_of rfl (m2_of (dv rfl (by decide) (by decide)) rfl (gMod_of (by decide))) rfl
    obtain ⟨d, hd, e⟩ := ix_mod (ds := [.int (h / 8 % 10), .int (0 - h / 8 % 9), .int 1000000000]) (by show 0 < 3; decide) (h / 128)
    have hx : ∃ v : Int, v.natAbs ≤ 1000000000 ∧ d = .int v := by
      have b1 := Int.emod_nonneg (h / 8) (show (10 : Int) ≠ 0 by decide)
      have b2 := Int.emod_lt_of_pos (h / 8) (show (0 : Int) < 10 by decide)
      have b3 := Int.emod_nonneg (h / 8) (show (9 : Int) ≠ 0 by decide)
      have b4 := Int.emod_lt_of_pos (h / 8) (show (0 : Int) < 9 by decide)
      rcases List.mem_cons.mp hd with rfl | hd
      · exact ⟨_, by omega, rfl⟩
      rcases List.mem_cons.mp hd with rfl | hd
      · exact ⟨_, by omega, rfl⟩
      rcases List.mem_cons.mp hd with rfl | hd
      · exact ⟨_, by omega, rfl⟩
      · cases hd
    obtain ⟨v, hv, rfl⟩ := hx
    have hi : m2 gIx (mB gLst (mCons (m2 gMod (m2 gDiv (mVar 3) (mC (.int 8))) (mC (.int 10))) (mCons (m2 gSub (mC (.int 0)) (m2 gMod (m2 gDiv (mVar 3) (mC (.int 8))) (mC (.int 9)))) (mCons (mC (.int 1000000000)) mNil)))) (m2 gMod (m2 gDiv (mVar 3) (mC (.int 128))) (mC (.int 3))) (hid (ltE m h k)) = .ok (.int v) :=
      m2_of (mB_of (cons_of a1 (cons_of a2 (cons_of rfl rfl))) rfl) (m2_of (dv rfl (by decide) (by decide)) rfl (gMod_of (by decide))) e
    exact ⟨.num v, ifT c3 (ret_of (mB_of (cons_of rfl (cons_of hi rfl)) rfl)), trivial, decide_eq_true hv, Nat.zero_le _⟩
def read5 : List Str := ["at", "sum", "many", "there", "at"]
theorem read5_in : ∀ x ∈ read5, x ∈ reads := by decide +kernel
theorem leafL (m h : Int) (k : Nat) : ∃ t, ltL (ltE m h k) = .ret (tmD t) ∧ Gt t k := by
  obtain ⟨d, hd, e⟩ := ix_mod (ds := read5.map .str) (by decide) (h / 8)
  obtain ⟨x, hx, rfl⟩ := mem_strs hd
  obtain ⟨r, _, hr⟩ := drawn h 1
  obtain ⟨p, hp, p1, p2⟩ := law_path_fine r
  have hi : m2 gIx (mB gLst (mCons (mC (.str "at")) (mCons (mC (.str "sum")) (mCons (mC (.str "many")) (mCons (mC (.str "there")) (mCons (mC (.str "at")) mNil)))))) (m2 gMod (m2 gDiv (mVar 3) (mC (.int 8))) (mC (.int 5))) (hid (ltE m h k)) = .ok (.str x) :=
    m2_of (mB_of (cons_of rfl (cons_of rfl (cons_of rfl (cons_of rfl (cons_of rfl rfl))))) rfl) (m2_of (dv rfl (by decide) (by decide)) rfl (gMod_of (by decide))) e
  have hq : mCallN 2 g_law_path (mCons (mCallN 2 g_law_drawn (mCons (mVar 3) (mCons (mC (.int 1)) mNil))) (mCons (mC (.int 3)) mNil)) (hid (ltE m h k)) = .ok (pathD p) := (call2 ((call2 (var_of rfl) rfl).trans hr) rfl).trans hp
  exact ⟨.rd x p, ret_of (mB_of (cons_of hi (cons_of hq rfl)) rfl), ⟨read5_in x hx, p2⟩, p1, Nat.zero_le _⟩
theorem leaf (m h : Int) (k : Nat) : ∃ t, mSeq ltA (mSeq ltB ltL) (ltE m h k) = .ret (tmD t) ∧ Gt t k := by
  rcases leafA m h k with hA | ⟨t, hA, g⟩
  · rw [seq_nx hA]
    rcases leafB m h k with hB | ⟨t, hB, g⟩
    · rw [seq_nx hB]
      exact leafL m h k
    · exact ⟨t, seq_ret hB, g⟩
  · exact ⟨t, seq_ret hA, g⟩
def two5 : List Str := ["plus", "less", "times", "same", "below"]
theorem two5_in : ∀ x ∈ two5, x ∈ twos := by decide +kernel
theorem Gt.up {t : Tm} {k : Nat} (g : Gt t k) : Gt t (k + 1) := ⟨g.syn, g.ok, Nat.le_succ_of_le g.ht⟩
theorem call3 {g : List D → Res D} {a b c : Ev} {E : IL.Env} {d e f : D} (h : a E = .ok d) (h' : b E = .ok e) (h'' : c E = .ok f) : mCallN 3 g (mCons a (mCons b (mCons c mNil))) E = g [d, e, f] := by
  unfold mCallN
  rw [cons_of h (cons_of h' (cons_of h'' rfl))]
  rfl
theorem ltH_of (m : Int) (k : Nat) : ltH [some (.val (.int m)), some (.val (.int k)), some (.val nms), none, none, none, none] = .nx (ltE m (m / 16) k) := by
  have h : m2 gDiv (mVar 0) (mC (.int 16)) (hid [some (.val (.int m)), some (.val (.int k)), some (.val nms), none, none, none, none]) = .ok (.int (m / 16)) := m2_of (var_of rfl) rfl (gDiv_of (by decide) (Nat.lt_of_lt_of_le (show (16 : Int).natAbs < 2 ^ 100 by decide) (Nat.pow_le_pow_right (by decide) (by decide))))
  exact asg_of h
theorem law_term_of : ∀ (n k : Nat) (m : Int), k ≤ n → k ≤ 4 → ∃ t, g_law_term (n + 1) [.int m, .int k, nms] = .ok (tmD t) ∧ Gt t k := by
  intro n
  induction n with
  | zero =>
    intro k m h1 h2
    have hk : k = 0 := by omega
    subst hk
    obtain ⟨t, ht, g⟩ := leaf m (m / 16) 0
    refine ⟨t, ?_, g⟩
    show outR (m_law_term (g_law_term 0) [some (.val (.int m)), some (.val (.int 0)), some (.val nms), none, none, none, none]) = _
    have c : ltC (vis (ltE m (m / 16) 0)) = .ok true := or_of (x := true) (y := true) (mT_of (m2_of (var_of rfl) rfl (eq_ints 0 0))) fun z => nomatch z
    rw [m_law_term_eq, seq_nx (show ltH [some (.val (.int m)), some (.val (.int 0)), some (.val nms), none, none, none, none] = .nx (ltE m (m / 16) 0) from ltH_of m 0), seq_ret (ifT c ht)]
    rfl
  | succ n ih =>
    intro k m h1 h2
    show ∃ t, outR (m_law_term (g_law_term (n + 1)) [some (.val (.int m)), some (.val (.int k)), some (.val nms), none, none, none, none]) = _ ∧ _
    have hm : m2 gMod (mVar 0) (mC (.int 4)) (vis (ltE m (m / 16) k)) = .ok (.int (m % 4)) := m2_of (var_of rfl) rfl (gMod_of (by decide))
    have c : ltC (vis (ltE m (m / 16) k)) = .ok (((k : Int) == 0) || (m % 4 == 0)) := or_of (mT_of (m2_of (var_of rfl) rfl (eq_ints k 0))) fun _ => mT_of (m2_of hm rfl (eq_ints _ _))
    have sH := ltH_of m k
    cases hb : (((k : Int) == 0) || (m % 4 == 0)) with
    | true =>
      obtain ⟨t, ht, g⟩ := leaf m (m / 16) k
      refine ⟨t, ?_, g⟩
      rw [hb] at c
      rw [m_law_term_eq, seq_nx sH, seq_ret (ifT c ht)]
      rfl
    | false =>
      rw [hb] at c
      obtain ⟨j, rfl⟩ : ∃ j, k = j + 1 := ⟨k - 1, by
        have : k ≠ 0 := fun z => by rw [z] at hb; cases hb
        omega⟩
      generalize hh : m / 16 = h at c sH
      have hr : mRng (mCons (mC (.int 3)) mNil) (hid (ltE m h (j + 1))) = .ok ((List.range 3).map fun (k : Nat) => .int (k : Int)) := rng_one (j := 3) rfl (by decide) (by decide)
      obtain ⟨ys, y1, y2, y3⟩ := comp_ex (j := 6) (f := mCallN 3 (g_law_term (n + 1)) (mCons (mCallN 2 g_law_drawn (mCons (mVar 3) (mCons (mVar 6) mNil))) (mCons (m2 gSub (mVar 1) (mC (.int 1))) (mCons (mVar 2) mNil)))) (R := fun y => ∃ t, y = tmD t ∧ Gt t j) hr (by decide) (fun d hd => by
        obtain ⟨i, _, rfl⟩ := List.mem_map.mp hd
        obtain ⟨r, _, hr⟩ := drawn h i
        obtain ⟨t, ht, g⟩ := ih j r (by omega) (by omega)
        refine ⟨tmD t, ?_, t, rfl, g⟩
        have e : m2 gSub (mVar 1) (mC (.int 1)) ((hid (ltE m h (j + 1))).set 6 (some (.int (i : Int)))) = .ok (.int j) := m2_of (var_of rfl) rfl (show some (PyData.int (((j + 1 : Nat) : Int) - 1)) = some (.int j) by rw [show ((j + 1 : Nat) : Int) - 1 = j by omega])
        exact (call3 ((call2 (var_of rfl) (var_of rfl)).trans hr) e (var_of rfl)).trans ht)
      match ys, y2, y1, y3 with
      | [ya, yb, yc], _, y1, y3 =>
        obtain ⟨a, rfl, ga⟩ := y3 ya (by simp)
        obtain ⟨b, rfl, gb⟩ := y3 yb (by simp)
        obtain ⟨c', rfl, gc⟩ := y3 yc (by simp)
        let row : D := .list [tmD a, tmD b, tmD c']
        let e4 : SEnv := [some (.val (.int m)), some (.val (.int ((j + 1 : Nat) : Int))), some (.val nms), some (.val (.int h)), some (.val row), none, none]
        let e5 : SEnv := [some (.val (.int m)), some (.val (.int ((j + 1 : Nat) : Int))), some (.val nms), some (.val (.int h)), some (.val row), some (.val (.int (h % 8))), none]
        have s4 : lt4 (g_law_term (n + 1)) (ltE m h (j + 1)) = .nx e4 := asg_of y1
        have s5 : lt5 e4 = .nx e5 := asg_of (m2_of (var_of rfl) rfl (gMod_of (by decide)))
        have b1 := Int.emod_nonneg h (show (8 : Int) ≠ 0 by decide)
        have r0 : m2 gIx (mVar 4) (mC (.int 0)) (hid e5) = .ok (tmD a) := ix_v (i := 4) rfl rfl
        have r1 : m2 gIx (mVar 4) (mC (.int 1)) (hid e5) = .ok (tmD b) := ix_v (i := 4) rfl rfl
        have r2 : m2 gIx (mVar 4) (mC (.int 2)) (hid e5) = .ok (tmD c') := ix_v (i := 4) rfl rfl
        have t6 : mT (m2 gLt (mVar 5) (mC (.int 5))) (vis e5) = .ok (decide (h % 8 < 5)) := mT_of (m2_of (var_of rfl) rfl rfl)
        by_cases h5 : h % 8 < 5
        · rw [decide_eq_true h5] at t6
          obtain ⟨d, hd, e⟩ := ix_mod (ds := two5.map .str) (by decide) (h % 8)
          obtain ⟨x, hx, rfl⟩ := mem_strs hd
          have e : gIx (.list (two5.map .str)) (.int (h % 8)) = some (.str x) := by
            rw [show (((two5.map PyData.str).length : Nat) : Int) = 5 from rfl, Int.emod_eq_of_lt b1 h5] at e
            exact e
          have hi : m2 gIx (mB gLst (mCons (mC (.str "plus")) (mCons (mC (.str "less")) (mCons (mC (.str "times")) (mCons (mC (.str "same")) (mCons (mC (.str "below")) mNil)))))) (mVar 5) (hid e5) = .ok (.str x) :=
            m2_of (mB_of (cons_of rfl (cons_of rfl (cons_of rfl (cons_of rfl (cons_of rfl rfl))))) rfl) (var_of rfl) e
          have s6 : lt6 e5 = .ret (tmD (.two x a b)) := ifT t6 (ret_of (mB_of (cons_of hi (cons_of r0 (cons_of r1 rfl))) rfl))
          refine ⟨.two x a b, ?_, ⟨⟨two5_in x hx, ga.syn, gb.syn⟩, ?_, ?_⟩⟩
          · rw [m_law_term_eq, seq_nx sH, seq_nx (ifF c), seq_nx s4, seq_nx s5, seq_ret s6]
            rfl
          · unfold okL; rw [ga.ok, gb.ok]; rfl
          · have := ga.ht; have := gb.ht
            show max (ht a) (ht b) + 1 ≤ j + 1
            omega
        · rw [decide_eq_false h5] at t6
          have s7 : lt7 e5 = .ret (tmD (.when a b c')) := ret_of (mB_of (cons_of rfl (cons_of r0 (cons_of r1 (cons_of r2 rfl)))) rfl)
          refine ⟨.when a b c', ?_, ⟨⟨ga.syn, gb.syn, gc.syn⟩, ?_, ?_⟩⟩
          · rw [m_law_term_eq, seq_nx sH, seq_nx (ifF c), seq_nx s4, seq_nx s5, seq_nx (show lt6 e5 = .nx e5 from ifF t6), s7]
            rfl
          · unfold okL; rw [ga.ok, gb.ok, gc.ok]; rfl
          · have := ga.ht; have := gb.ht; have := gc.ht
            show max (ht a) (max (ht b) (ht c')) + 1 ≤ j + 1
            omega
end K70
namespace K70
open PySem IL
/-! ### plain: the law -/
def bentM : Ev := (m2 gAdd (m2 gAdd (mSl (mVar 9) none (some (mVar 10))) (m2 gIx (mB gLst (mCons (mVar 11) (mCons (mC (.str "")) (mCons (mVar 11) mNil)))) (m2 gMod (m2 gDiv (mVar 8) (mC (.int 64))) (mC (.int 3))))) (mSl (mVar 9) (some (m2 gAdd (mVar 10) (m2 gIx (mB gLst (mCons (mC (.int 0)) (mCons (mC (.int 1)) (mCons (mC (.int 1)) mNil)))) (m2 gMod (m2 gDiv (mVar 8) (mC (.int 64))) (mC (.int 3)))))) none))
def rTM : Ev := (mB gTup (mCons (mC (.str "refused")) (mCons (mC (.str "BadText")) mNil)))
def rngM : IL.Env → Res (List D) := (mRng (mCons (mB gMax2 (mCons (mC (.int 1)) (mCons (mB gMin2 (mCons (mC (.int 4)) (mCons (mB gLen (mCons (mVar 0) mNil)) mNil))) mNil))) mNil))
def a0 : Sv := (sAsg 2 (mCallN 2 g_law_drawn (mCons (mCallN 2 g_law_cell (mCons (mVar 0) (mCons (mVar 1) mNil))) (mCons (mVar 1) mNil))))
def a1 : Sv := (sPar 3 4 (mCallN 2 g_law_state (mCons (m2 gDiv (mVar 2) (mC (.int 8))) (mCons (mC (.int 10)) mNil))) (mCallN 3 (g_law_term 6) (mCons (m2 gDiv (mVar 2) (mC (.int 64))) (mCons (m2 gAdd (mC (.int 1)) (m2 gMod (mVar 2) (mC (.int 4)))) (mCons (mB gLst (mCons (mC (.str "a")) (mCons (mC (.str "look")) (mCons (mC (.str "when")) mNil)))) mNil)))))
def a2 : Sv := (sPar 5 6 (mCallN 1 g_law_state_text (mCons (mVar 3) mNil)) (mCallN 1 (g_law_term_text 12) (mCons (mVar 4) mNil)))
def a3 : Sv := (sIf (mOr (mT (m2 gNe (mCallN 1 g_state_text (mCons (mVar 3) mNil)) (mVar 5))) (mT (m2 gNeDT (mCallN 1 g_state_in (mCons (mVar 5) mNil)) (mVar 3)))) (sRet (mC (.bool false))) mSkip)
def a4 : Sv := (sIf (mOr (mT (m2 gNe (mCallN 1 g_term_text (mCons (mVar 4) mNil)) (mVar 6))) (mT (m2 gNe (mCallN 1 (fun ds => okOnly (g_term_in ds)) (mCons (mVar 6) mNil)) (mVar 4)))) (sRet (mC (.bool false))) mSkip)
def rng6 : IL.Env → Res (List D) := (mRng (mCons (mC (.int 6)) mNil))
def b0 : Sv := (sAsg 8 (mCallN 2 g_law_drawn (mCons (mVar 2) (mCons (m2 gAdd (mC (.int 30)) (mVar 7)) mNil))))
def it2 : IL.Env → Res (List D) := (mItems lstOf (mB gLst (mCons (mVar 5) (mCons (mVar 6) mNil))))
def c0 : Sv := (sAsg 10 (m2 gMod (mVar 8) (m2 gAdd (mB gLen (mCons (mVar 9) mNil)) (mC (.int 1)))))
def c1 : Sv := (sAsg 11 (m2 gIx (mC (.str " .()-0a1\n")) (m2 gMod (m2 gDiv (mVar 8) (mC (.int 4096))) (mC (.int 9)))))
def c2 : Sv := sAsg 12 bentM
def c3 : Sv := (sAsg 13 (mTold seven nmX (mCallN 1 g_state_in (mCons (mVar 12) mNil))))
def c4 : Sv := (sIf (mT (m1 (gIsi "dict") (mVar 13))) (sIf (mOr (mT (m2 gNe (mCallN 1 g_law_state_text (mCons (mVar 13) mNil)) (mVar 12))) (mNot (mT (mCallN 1 g_law_is_state (mCons (mVar 13) mNil))))) (sRet (mC (.bool false))) mSkip) (sIf (mT (m2 gNe (mVar 13) rTM)) (sRet (mC (.bool false))) mSkip))
def c5 : Sv := (sAsg 13 (mTold seven nmX (mCallN 1 g_term_in (mCons (mVar 12) mNil))))
def c6 : Sv := (sIf (mAnd (mT (m2 gNe (mVar 13) rTM)) (mT (m2 gNe (mCallN 1 (g_law_term_text 12) (mCons (mVar 13) mNil)) (mVar 12)))) (sRet (mC (.bool false))) mSkip)
def endM : Ev := (mAndV (m2 gEq (mCallN 1 g_state_text (mCons (mC (.dict [])) mNil)) (mC (.str ""))) (mAndV (m2 gEqDT (mCallN 1 g_state_in (mCons (mC (.str "")) mNil)) (mC (.dict []))) (m2 gEq (mCallN 1 (fun ds => okOnly (g_term_in ds)) (mCons (mC (.str "sum .")) mNil)) (mB gTup (mCons (mC (.str "sum")) (mCons (mB gTup mNil) mNil))))))
def inner : Sv := mSeq c0 (mSeq c1 (mSeq c2 (mSeq c3 (mSeq c4 (mSeq c5 c6)))))
def bend : Sv := mSeq b0 (sFor it2 9 inner)
def turn : Sv := mSeq a0 (mSeq a1 (mSeq a2 (mSeq a3 (mSeq a4 (sFor rng6 7 bend)))))
theorem m_law_eq : m_law = mSeq (sFor rngM 1 turn) (sRet endM) := rfl
def refT : D := refused nmX .text
def isTr : Res D → Bool
  | .ok (.bool true) => true
  | _ => false
theorem isTr_of {r : Res D} (h : isTr r = true) : r = .ok (.bool true) := by
  match r, h with
  | .ok (.bool true), _ => rfl
theorem rT_ok (E : IL.Env) : rTM E = .ok refT := rfl
theorem rT_ne : gNe refT refT = some (.bool false) := isF_of (by decide +kernel)
theorem rT_plain : refT.plain = true := by decide +kernel
theorem rT_depth : refT.depth ≤ 60 := by decide +kernel
/-! a text with a sign more, less or another one -/
def nine : Str := " .()-0a1\n"
theorem nine_len : nine.length = 9 := by decide +kernel
theorem pick9 (z : Int) : ∃ c : Nat, gIx (.str nine) (.int (z % 9)) = some (.str ⟨#[c]⟩) := by
  have b1 := Int.emod_nonneg z (show (9 : Int) ≠ 0 by decide)
  have b2 := Int.emod_lt_of_pos z (show (0 : Int) < 9 by decide)
  obtain ⟨k, hk⟩ : ∃ k : Nat, z % 9 = (k : Int) := ⟨(z % 9).toNat, by omega⟩
  have hl : k < nine.cps.toList.length := by
    have : nine.cps.toList.length = 9 := by decide +kernel
    omega
  refine ⟨nine.cps.toList[k], ?_⟩
  show (if big nine.length = true then (L2.atI nine.cps.toList (z % 9)).map (fun c => PyData.str ⟨#[c]⟩) else none) = _
  rw [if_pos (show big nine.length = true from decide_eq_true (by rw [nine_len]; decide)), hk, L2.atI_nat (List.getElem?_eq_getElem hl)]
  rfl
theorem len_s {i : Nat} {E : IL.Env} {x : Str} (h : E[i]? = some (some (.str x))) (l : x.length ≤ 1000000) : mB gLen (mCons (mVar i) mNil) E = .ok (.int x.length) := mB_of (cons_of (var_of h) rfl) (if_pos (show big x.length = true from decide_eq_true l))
theorem to_len (x : Str) (n : Nat) : (L2.cutS x none (some (n : Int))).length ≤ x.length := by
  rw [len_sg, sg_to, List.length_take, ← len_sg]
  exact Nat.min_le_right _ _
theorem from_len (x : Str) (n : Nat) : (L2.cutS x (some (n : Int)) none).length ≤ x.length := by
  rw [len_sg, sg_from, List.length_drop, ← len_sg]
  exact Nat.sub_le _ _
theorem dv8 {E : IL.Env} {h : Int} (hv : E[8]? = some (some (.int h))) {n : Int} (h1 : 0 < n) (h2 : n.natAbs < 2 ^ 100) : m2 gDiv (mVar 8) (mC (.int n)) E = .ok (.int (h / n)) := m2_of (var_of hv) rfl (gDiv_of h1 (Nat.lt_of_lt_of_le h2 (Nat.pow_le_pow_right (by decide) (by decide))))
theorem bent_of {E : IL.Env} {x : Str} {h : Int} {n c : Nat} (h8 : E[8]? = some (some (.int h))) (h9 : E[9]? = some (some (.str x))) (h10 : E[10]? = some (some (.int n))) (h11 : E[11]? = some (some (.str ⟨#[c]⟩))) (l : x.length ≤ 5000) : ∃ y : Str, bentM E = .ok (.str y) ∧ y.length ≤ 10001 := by
  have w : m2 gMod (m2 gDiv (mVar 8) (mC (.int 64))) (mC (.int 3)) E = .ok (.int (h / 64 % 3)) := m2_of (dv8 h8 (by decide) (by decide)) rfl (gMod_of (by decide))
  obtain ⟨d, hd, e⟩ := ix_mod (ds := [.str ⟨#[c]⟩, .str "", .str ⟨#[c]⟩]) (by show 0 < 3; decide) (h / 64)
  have hy : ∃ y : Str, d = .str y ∧ y.length ≤ 1 := by
    rcases List.mem_cons.mp hd with rfl | hd
    · exact ⟨_, rfl, Nat.le_refl _⟩
    rcases List.mem_cons.mp hd with rfl | hd
    · exact ⟨_, rfl, by decide⟩
    rcases List.mem_cons.mp hd with rfl | hd
    · exact ⟨_, rfl, Nat.le_refl _⟩
    · cases hd
  obtain ⟨y, rfl, ly⟩ := hy
  obtain ⟨d2, hd2, e2⟩ := ix_mod (ds := [.int 0, .int 1, .int 1]) (by show 0 < 3; decide) (h / 64)
  have hk : ∃ k : Nat, d2 = .int (k : Int) := by
    rcases List.mem_cons.mp hd2 with rfl | hd2
    · exact ⟨0, rfl⟩
    rcases List.mem_cons.mp hd2 with rfl | hd2
    · exact ⟨1, rfl⟩
    rcases List.mem_cons.mp hd2 with rfl | hd2
    · exact ⟨1, rfl⟩
    · cases hd2
  obtain ⟨k, rfl⟩ := hk
  have m1 : m2 gIx (mB gLst (mCons (mVar 11) (mCons (mC (.str "")) (mCons (mVar 11) mNil)))) (m2 gMod (m2 gDiv (mVar 8) (mC (.int 64))) (mC (.int 3))) E = .ok (.str y) :=
    m2_of (mB_of (cons_of (var_of h11) (cons_of rfl (cons_of (var_of h11) rfl))) rfl) w e
  have m2' : m2 gIx (mB gLst (mCons (mC (.int 0)) (mCons (mC (.int 1)) (mCons (mC (.int 1)) mNil)))) (m2 gMod (m2 gDiv (mVar 8) (mC (.int 64))) (mC (.int 3))) E = .ok (.int k) :=
    m2_of (mB_of (cons_of rfl (cons_of rfl (cons_of rfl rfl))) rfl) w e2
  have l1 := to_len x n
  have l2 := from_len x (n + k)
  have s1 := sl_tm (n := n) (var_of h9) (var_of h10) (by omega : x.length ≤ 100000)
  have s2 := sl_fm (n := n + k) (var_of h9) (m2_of (var_of h10) m2' (g := gAdd) (z := .int ((n + k : Nat) : Int)) rfl) (by omega : x.length ≤ 100000)
  exact ⟨_, addT (addT s1 m1 (by omega)) s2 (by rw [len_app]; omega), by rw [len_app, len_app]; omega⟩
theorem c4_of {e : SEnv} {y : Str} (l : y.length ≤ 10001) (hl : e.length = 14) (h12 : Has e 12 (.val (.str y))) : ∃ d, mSeq c3 c4 e = .nx (e.set 13 (some (.val d))) := by
  have v12 := vis_of h12
  rcases state_in_any y (by omega) with hx | ⟨es, hx, f, ht⟩
  · refine ⟨refT, ?_⟩
    have s3 : c3 e = .nx (e.set 13 (some (.val refT))) := asg_of (told_exc ((call1 (var_of (hid_of h12))).trans hx) (by decide))
    have v13 : Has (e.set 13 (some (.val refT))) 13 (.val refT) := has_set (by omega)
    have t1 : mT (m1 (gIsi "dict") (mVar 13)) (vis (e.set 13 (some (.val refT)))) = .ok false := mT_of (m1_of (g := gIsi "dict") (var_of (vis_of v13)) (z := .bool false) rfl)
    have t2 : mT (m2 gNe (mVar 13) rTM) (vis (e.set 13 (some (.val refT)))) = .ok false := mT_of (m2_of (var_of (vis_of v13)) (rT_ok _) rT_ne)
    rw [seq_nx s3]
    unfold c4
    exact ((if_of t1).trans (if_neg Bool.false_ne_true)).trans (ifF t2)
  · refine ⟨stD es, ?_⟩
    have s3 : c3 e = .nx (e.set 13 (some (.val (stD es)))) := asg_of (told_ok ((call1 (var_of (hid_of h12))).trans hx))
    have v13 : Has (e.set 13 (some (.val (stD es)))) 13 (.val (stD es)) := has_set (by omega)
    have w12 : Has (e.set 13 (some (.val (stD es)))) 12 (.val (.str y)) := h12.ne (by decide)
    have t1 : mT (m1 (gIsi "dict") (mVar 13)) (vis (e.set 13 (some (.val (stD es))))) = .ok true := mT_of (m1_of (g := gIsi "dict") (var_of (vis_of v13)) (z := .bool true) (by cases es <;> rfl))
    have t2 : (mOr (mT (m2 gNe (mCallN 1 g_law_state_text (mCons (mVar 13) mNil)) (mVar 12))) (mNot (mT (mCallN 1 g_law_is_state (mCons (mVar 13) mNil))))) (vis (e.set 13 (some (.val (stD es))))) = .ok false :=
      or_of (x := false) (y := false) (mT_of (m2_of ((call1 (var_of (vis_of v13))).trans (law_state_text_of f)) (var_of (vis_of w12)) (by rw [ht, ne_strs, beq_self_eq_true]; rfl))) fun _ => not_of (x := true) (mT_of ((call1 (var_of (vis_of v13))).trans (law_is_state_of f)))
    rw [seq_nx s3]
    unfold c4
    exact ifT t1 (ifF t2)
theorem c6_of {e : SEnv} {y : Str} (l : y.length ≤ 10001) (hl : e.length = 14) (h12 : Has e 12 (.val (.str y))) : ∃ d, mSeq c5 c6 e = .nx (e.set 13 (some (.val d))) := by
  have end6 : ∀ {E : SEnv}, (∃ b, mT (m2 gNe (mVar 13) rTM) (vis E) = .ok b ∧ (b = true → mT (m2 gNe (mCallN 1 (g_law_term_text 12) (mCons (mVar 13) mNil)) (mVar 12)) (vis E) = .ok false)) → c6 E = .nx E := fun {E} ⟨b, h1, h2⟩ => by
    have t : mAnd (mT (m2 gNe (mVar 13) rTM)) (mT (m2 gNe (mCallN 1 (g_law_term_text 12) (mCons (mVar 13) mNil)) (mVar 12))) (vis E) = .ok false := by
      unfold mAnd
      rw [h1]
      cases b with
      | false => rfl
      | true => exact h2 rfl
    exact ifF t
  rcases term_in_any y (by omega) with hx | ⟨t, hx, sy, ok, hh, ht⟩
  · refine ⟨refT, ?_⟩
    have s3 : c5 e = .nx (e.set 13 (some (.val refT))) := asg_of (told_exc ((call1 (var_of (hid_of h12))).trans hx) (by decide))
    have v13 : Has (e.set 13 (some (.val refT))) 13 (.val refT) := has_set (by omega)
    rw [seq_nx s3]
    exact end6 ⟨false, mT_of (m2_of (var_of (vis_of v13)) (rT_ok _) rT_ne), fun z => nomatch z⟩
  · refine ⟨tmD t, ?_⟩
    have s3 : c5 e = .nx (e.set 13 (some (.val (tmD t)))) := asg_of (told_ok ((call1 (var_of (hid_of h12))).trans hx))
    have v13 : Has (e.set 13 (some (.val (tmD t)))) 13 (.val (tmD t)) := has_set (by omega)
    have w12 : Has (e.set 13 (some (.val (tmD t)))) 12 (.val (.str y)) := h12.ne (by decide)
    obtain ⟨b, hb⟩ := tm_ne_any t rT_plain rT_depth
    rw [seq_nx s3]
    exact end6 ⟨b, mT_of (m2_of (var_of (vis_of v13)) (rT_ok _) hb), fun _ => mT_of (m2_of ((call1 (var_of (vis_of v13))).trans (law_term_text_of sy ok hh)) (var_of (vis_of w12)) (by rw [ht, ne_strs, beq_self_eq_true]; rfl))⟩
theorem seq_as {a b c : Sv} {e : SEnv} : mSeq a (mSeq b c) e = mSeq (mSeq a b) c e := by
  unfold mSeq
  cases a e <;> rfl
theorem keep_set {e : SEnv} {j i : Nat} {v : Option Ent} (h : i < j) : (e.set j v)[i]? = e[i]? := List.getElem?_set_ne (by omega)
theorem inner_ok {e : SEnv} {x : Str} {h : Int} (l : x.length ≤ 5000) (hl : e.length = 14) (h8 : Has e 8 (.val (.int h))) (h9 : Has e 9 (.val (.str x))) : ∃ e', inner e = .nx e' ∧ e'.length = 14 ∧ ∀ i, i < 10 → e'[i]? = e[i]? := by
  have pl : (0 : Int) < (x.length : Int) + 1 := by omega
  have b1 := Int.emod_nonneg h (show ((x.length : Int) + 1) ≠ 0 by omega)
  obtain ⟨n, hn⟩ : ∃ n : Nat, h % ((x.length : Int) + 1) = (n : Int) := ⟨(h % ((x.length : Int) + 1)).toNat, by omega⟩
  have s0 : c0 e = .nx (e.set 10 (some (.val (.int n)))) := asg_of (by
    rw [← hn]
    exact m2_of (var_of (hid_of h8)) (m2_of (len_s (hid_of h9) (by omega)) rfl rfl) (gMod_of pl))
  have g8 : Has (e.set 10 (some (.val (.int n)))) 8 (.val (.int h)) := h8.ne (by decide)
  have g9 : Has (e.set 10 (some (.val (.int n)))) 9 (.val (.str x)) := h9.ne (by decide)
  have g10 : Has (e.set 10 (some (.val (.int n)))) 10 (.val (.int n)) := has_set (by omega)
  have gl : (e.set 10 (some (.val (.int n)))).length = 14 := by rw [List.length_set]; exact hl
  have gk : ∀ i, i < 10 → (e.set 10 (some (.val (.int n))))[i]? = e[i]? := fun i hi => keep_set hi
  generalize e.set 10 (some (.val (.int n))) = e1 at s0 g8 g9 g10 gl gk
  obtain ⟨c, hc⟩ := pick9 (h / 4096)
  have s1 : c1 e1 = .nx (e1.set 11 (some (.val (.str ⟨#[c]⟩)))) := asg_of (m2_of (a := mC (.str nine)) rfl (m2_of (dv8 (hid_of g8) (by decide) (by decide)) rfl (gMod_of (by decide))) hc)
  have f8 : Has (e1.set 11 (some (.val (.str ⟨#[c]⟩)))) 8 (.val (.int h)) := g8.ne (by decide)
  have f9 : Has (e1.set 11 (some (.val (.str ⟨#[c]⟩)))) 9 (.val (.str x)) := g9.ne (by decide)
  have f10 : Has (e1.set 11 (some (.val (.str ⟨#[c]⟩)))) 10 (.val (.int n)) := g10.ne (by decide)
  have f11 : Has (e1.set 11 (some (.val (.str ⟨#[c]⟩)))) 11 (.val (.str ⟨#[c]⟩)) := has_set (by omega)
  have fl : (e1.set 11 (some (.val (.str ⟨#[c]⟩)))).length = 14 := by rw [List.length_set]; exact gl
  have fk : ∀ i, i < 10 → (e1.set 11 (some (.val (.str ⟨#[c]⟩))))[i]? = e[i]? := fun i hi => (keep_set (by omega)).trans (gk i hi)
  generalize e1.set 11 (some (.val (.str ⟨#[c]⟩))) = e2 at s1 f8 f9 f10 f11 fl fk
  obtain ⟨y, hy, ly⟩ := bent_of (hid_of f8) (hid_of f9) (hid_of f10) (hid_of f11) l
  have s2 : c2 e2 = .nx (e2.set 12 (some (.val (.str y)))) := asg_of hy
  have d12 : Has (e2.set 12 (some (.val (.str y)))) 12 (.val (.str y)) := has_set (by omega)
  have dl : (e2.set 12 (some (.val (.str y)))).length = 14 := by rw [List.length_set]; exact fl
  have dk : ∀ i, i < 10 → (e2.set 12 (some (.val (.str y))))[i]? = e[i]? := fun i hi => (keep_set (by omega)).trans (fk i hi)
  generalize e2.set 12 (some (.val (.str y))) = e3 at s2 d12 dl dk
  obtain ⟨d, s3⟩ := c4_of ly dl d12
  have w12 : Has (e3.set 13 (some (.val d))) 12 (.val (.str y)) := d12.ne (by decide)
  have wl : (e3.set 13 (some (.val d))).length = 14 := by rw [List.length_set]; exact dl
  have wk : ∀ i, i < 10 → (e3.set 13 (some (.val d)))[i]? = e[i]? := fun i hi => (keep_set (by omega)).trans (dk i hi)
  generalize e3.set 13 (some (.val d)) = e4 at s3 w12 wl wk
  obtain ⟨d', s4⟩ := c6_of ly wl w12
  refine ⟨e4.set 13 (some (.val d')), ?_, by rw [List.length_set]; exact wl, fun i hi => (keep_set (by omega)).trans (wk i hi)⟩
  unfold inner
  rw [seq_nx s0, seq_nx s1, seq_nx s2, seq_as, seq_nx s3, s4]
/-! one turn -/
structure Kp (s : D) (env : SEnv) : Prop where
  len : env.length = 14
  scr : Has env 0 (.val s)
theorem Kp.set {s : D} {env : SEnv} {e : Ent} (h : Kp s env) (i : Nat) (hi : i ≠ 0) : Kp s (env.set i (some e)) := ⟨by rw [List.length_set]; exact h.len, h.scr.ne hi⟩
structure Kq (s : D) (m : Int) (x y : Str) (env : SEnv) : Prop where
  kp : Kp s env
  more : Has env 2 (.val (.int m))
  st : Has env 5 (.val (.str x))
  tm : Has env 6 (.val (.str y))
theorem Kq.set {s : D} {m : Int} {x y : Str} {env : SEnv} {e : Ent} (h : Kq s m x y env) (i : Nat) (hi : 6 < i) : Kq s m x y (env.set i (some e)) := ⟨h.kp.set i (by omega), h.more.ne (by omega), h.st.ne (by omega), h.tm.ne (by omega)⟩
theorem bend_ok {s : D} {m : Int} {x y : Str} (lx : x.length ≤ 5000) (ly : y.length ≤ 5000) {env : SEnv} (k : Kq s m x y env) (j : Nat) : ∃ e, bend (env.set 7 (some (.val (.int j)))) = .nx e ∧ Kq s m x y e := by
  have k7 := k.set (e := .val (.int j)) 7 (by decide)
  have v7 : Has (env.set 7 (some (.val (.int j)))) 7 (.val (.int j)) := has_set (by rw [k.kp.len]; decide)
  generalize env.set 7 (some (.val (.int j))) = e0 at k7 v7
  obtain ⟨h, _, hh⟩ := drawn m (30 + j)
  have s0 : b0 e0 = .nx (e0.set 8 (some (.val (.int h)))) := asg_of ((call2 (var_of (hid_of k7.more)) (m2_of rfl (var_of (hid_of v7)) (g := gAdd) (z := .int (30 + (j : Int))) rfl)).trans hh)
  have k8 := k7.set (e := .val (.int h)) 8 (by decide)
  have v8 : Has (e0.set 8 (some (.val (.int h)))) 8 (.val (.int h)) := has_set (by rw [k7.kp.len]; decide)
  generalize e0.set 8 (some (.val (.int h))) = e1 at s0 k8 v8
  obtain ⟨e2, h2, k2, _⟩ := loop_inv (i := 9) (b := inner) (I := fun e => Kq s m x y e ∧ Has e 8 (.val (.int h))) (ds := [.str x, .str y]) (fun d hd e ⟨i1, i2⟩ => by
    have hz : ∃ z : Str, d = .str z ∧ z.length ≤ 5000 := by
      rcases List.mem_cons.mp hd with rfl | hd
      · exact ⟨x, rfl, lx⟩
      rcases List.mem_cons.mp hd with rfl | hd
      · exact ⟨y, rfl, ly⟩
      · cases hd
    obtain ⟨z, rfl, lz⟩ := hz
    have q := i1.set (e := .val (.str z)) 9 (by decide)
    have q8 : Has (e.set 9 (some (.val (.str z)))) 8 (.val (.int h)) := i2.ne (by decide)
    have q9 : Has (e.set 9 (some (.val (.str z)))) 9 (.val (.str z)) := has_set (by rw [i1.kp.len]; decide)
    obtain ⟨e', r1, r2, r3⟩ := inner_ok lz q.kp.len q8 q9
    exact ⟨e', r1, ⟨⟨r2, (r3 0 (by decide)).trans q.kp.scr⟩, (r3 2 (by decide)).trans q.more, (r3 5 (by decide)).trans q.st, (r3 6 (by decide)).trans q.tm⟩, (r3 8 (by decide)).trans q8⟩) e1 ⟨k8, v8⟩
  have s1 : sFor it2 9 inner e1 = .nx e2 := (for_of (ds := [.str x, .str y]) (by
    unfold it2 mItems
    rw [mB_of (g := gLst) (cons_of (var_of (hid_of k8.st)) (cons_of (var_of (hid_of k8.tm)) rfl)) rfl]
    rfl)).trans h2
  refine ⟨e2, ?_, k2⟩
  unfold bend
  rw [seq_nx s0, s1]
theorem par_of {i j : Nat} {a b : Ev} {env : SEnv} {d e : D} (h : a (hid env) = .ok d) (h' : b (hid env) = .ok e) : sPar i j a b env = .nx ((env.set i (some (.val d))).set j (some (.val e))) := by
  unfold sPar
  rw [h]
  show liftR (b (hid env)) _ = _
  rw [h']
  rfl
theorem turn_ok {ns : List Int} (hlen : ns.length ≤ 63) {k : Nat} {env : SEnv} (kp : Kp (.list (ns.map PyData.int)) env) : ∃ e, turn (env.set 1 (some (.val (.int k)))) = .nx e ∧ Kp (.list (ns.map PyData.int)) e := by
  obtain ⟨c, hc⟩ := cell ns hlen k
  obtain ⟨m, _, hm⟩ := drawn c k
  have kA := kp.set (e := .val (.int k)) 1 (by decide)
  have l := kp.len
  have v1 : Has (env.set 1 (some (.val (.int k)))) 1 (.val (.int k)) := has_set (by omega)
  have sA : a0 (env.set 1 (some (.val (.int k)))) = .nx ((env.set 1 (some (.val (.int k)))).set 2 (some (.val (.int m)))) :=
    asg_of ((call2 ((call2 (var_of (hid_of kA.scr)) (var_of (hid_of v1))).trans hc) (var_of (hid_of v1))).trans hm)
  have kB := kA.set (e := .val (.int m)) 2 (by decide)
  have v2 : Has ((env.set 1 (some (.val (.int k)))).set 2 (some (.val (.int m)))) 2 (.val (.int m)) := has_set (by rw [List.length_set]; omega)
  generalize (env.set 1 (some (.val (.int k)))).set 2 (some (.val (.int m))) = eB at sA kB v2
  have d2 : ∀ n : Int, 0 < n → n.natAbs < 2 ^ 100 → m2 gDiv (mVar 2) (mC (.int n)) (hid eB) = .ok (.int (m / n)) := fun n h1 h2 => m2_of (var_of (hid_of v2)) rfl (gDiv_of h1 (Nat.lt_of_lt_of_le h2 (Nat.pow_le_pow_right (by decide) (by decide))))
  obtain ⟨es, hes, g, hl⟩ := law_state_of (m / 8) 10 (by decide) (by decide)
  have f := good_fine g (by omega)
  have b1 := Int.emod_nonneg m (show (4 : Int) ≠ 0 by decide)
  have b2 := Int.emod_lt_of_pos m (show (0 : Int) < 4 by decide)
  obtain ⟨q, hq⟩ : ∃ q : Nat, 1 + m % 4 = (q : Int) := ⟨(1 + m % 4).toNat, by omega⟩
  obtain ⟨t, hterm, gt⟩ := law_term_of 5 q (m / 64) (by omega) (by omega)
  have hh : ht t ≤ 4 := by have := gt.ht; omega
  have r1 : mCallN 2 g_law_state (mCons (m2 gDiv (mVar 2) (mC (.int 8))) (mCons (mC (.int 10)) mNil)) (hid eB) = .ok (stD es) := (call2 (d2 8 (by decide) (by decide)) rfl).trans hes
  have hadd : m2 gAdd (mC (.int 1)) (m2 gMod (mVar 2) (mC (.int 4))) (hid eB) = .ok (.int (q : Int)) := by
    rw [← hq]
    exact m2_of rfl (m2_of (var_of (hid_of v2)) rfl (gMod_of (by decide))) rfl
  have r2 : mCallN 3 (g_law_term 6) (mCons (m2 gDiv (mVar 2) (mC (.int 64))) (mCons (m2 gAdd (mC (.int 1)) (m2 gMod (mVar 2) (mC (.int 4)))) (mCons (mB gLst (mCons (mC (.str "a")) (mCons (mC (.str "look")) (mCons (mC (.str "when")) mNil)))) mNil))) (hid eB) = .ok (tmD t) :=
    (call3 (d2 64 (by decide) (by decide)) hadd (f := nms) rfl).trans hterm
  have sB : a1 eB = .nx ((eB.set 3 (some (.val (stD es)))).set 4 (some (.val (tmD t)))) := par_of r1 r2
  have kC := (kB.set (e := .val (stD es)) 3 (by decide)).set (e := .val (tmD t)) 4 (by decide)
  have u2 : Has ((eB.set 3 (some (.val (stD es)))).set 4 (some (.val (tmD t)))) 2 (.val (.int m)) := (v2.ne (by decide)).ne (by decide)
  have u3 : Has ((eB.set 3 (some (.val (stD es)))).set 4 (some (.val (tmD t)))) 3 (.val (stD es)) := (has_set (by rw [kB.len]; decide)).ne (by decide)
  have u4 : Has ((eB.set 3 (some (.val (stD es)))).set 4 (some (.val (tmD t)))) 4 (.val (tmD t)) := has_set (by rw [List.length_set, kB.len]; decide)
  generalize (eB.set 3 (some (.val (stD es)))).set 4 (some (.val (tmD t))) = eC at sB kC u2 u3 u4
  have sC : a2 eC = .nx ((eC.set 5 (some (.val (.str (stTx es))))).set 6 (some (.val (.str (tx t))))) := par_of ((call1 (var_of (hid_of u3))).trans (law_state_text_of f)) ((call1 (var_of (hid_of u4))).trans (law_term_text_of gt.syn gt.ok (by omega)))
  have kD := (kC.set (e := .val (.str (stTx es))) 5 (by decide)).set (e := .val (.str (tx t))) 6 (by decide)
  have w2 : Has ((eC.set 5 (some (.val (.str (stTx es))))).set 6 (some (.val (.str (tx t))))) 2 (.val (.int m)) := (u2.ne (by decide)).ne (by decide)
  have w3 : Has ((eC.set 5 (some (.val (.str (stTx es))))).set 6 (some (.val (.str (tx t))))) 3 (.val (stD es)) := (u3.ne (by decide)).ne (by decide)
  have w4 : Has ((eC.set 5 (some (.val (.str (stTx es))))).set 6 (some (.val (.str (tx t))))) 4 (.val (tmD t)) := (u4.ne (by decide)).ne (by decide)
  have w5 : Has ((eC.set 5 (some (.val (.str (stTx es))))).set 6 (some (.val (.str (tx t))))) 5 (.val (.str (stTx es))) := (has_set (by rw [kC.len]; decide)).ne (by decide)
  have w6 : Has ((eC.set 5 (some (.val (.str (stTx es))))).set 6 (some (.val (.str (tx t))))) 6 (.val (.str (tx t))) := has_set (by rw [List.length_set, kC.len]; decide)
  generalize (eC.set 5 (some (.val (.str (stTx es))))).set 6 (some (.val (.str (tx t)))) = eD at sC kD w2 w3 w4 w5 w6
  have sD : a3 eD = .nx eD := ifF (or_of (x := false) (y := false) (mT_of (m2_of ((call1 (var_of (vis_of w3))).trans (state_text_of f)) (var_of (vis_of w5)) (by rw [ne_strs, beq_self_eq_true]; rfl))) fun _ => mT_of (m2_of ((call1 (var_of (vis_of w5))).trans (state_in_of f (by omega))) (var_of (vis_of w3)) (srt_eq f)))
  have hti : okOnly (g_term_in [.str (tx t)]) = .ok (tmD t) := by rw [term_in_back gt.syn gt.ok hh]; rfl
  have hv : validB 0 t = true := ok_valid gt.ok (by omega)
  have sE : a4 eD = .nx eD := ifF (or_of (x := false) (y := false) (mT_of (m2_of ((call1 (var_of (vis_of w4))).trans (term_text_of gt.syn hv)) (var_of (vis_of w6)) (by rw [ne_strs, beq_self_eq_true]; rfl))) fun _ => mT_of (m2_of ((call1 (var_of (vis_of w6))).trans hti) (var_of (vis_of w4)) (tm_ne (by omega))))
  have lx : (stTx es).length ≤ 5000 := by have := stTx_len f; omega
  have ly : (tx t).length ≤ 5000 := tx_len4 gt.syn gt.ok hh
  have r6 : rng6 (hid eD) = .ok ((List.range 6).map fun (k : Nat) => .int (k : Int)) := rng_one (j := 6) rfl (by decide) (by decide)
  obtain ⟨e, h1, ke⟩ := loop_inv (i := 7) (b := bend) (I := Kq (.list (ns.map PyData.int)) m (stTx es) (tx t)) (ds := (List.range 6).map fun (k : Nat) => .int (k : Int)) (fun d hd e ke => by
    obtain ⟨j, _, rfl⟩ := List.mem_map.mp hd
    exact bend_ok lx ly ke j) eD ⟨kD, w2, w5, w6⟩
  refine ⟨e, ?_, ke.kp⟩
  unfold turn
  rw [seq_nx sA, seq_nx sB, seq_nx sC, seq_nx sD, seq_nx sE]
  exact (for_of r6).trans h1
theorem rngN (ns : List Int) (E : IL.Env) (h : E[0]? = some (some (.list (ns.map PyData.int)))) : ∃ ds, rngM E = .ok ds ∧ ∀ d ∈ ds, ∃ j : Nat, d = .int j := by
  have hL : mB gLen (mCons (mVar 0) mNil) E = .ok (.int (ns.map PyData.int).length) := mB_of (cons_of (var_of h) rfl) rfl
  generalize ((ns.map PyData.int).length : Int) = n at hL
  have hm : mB gMin2 (mCons (mC (.int 4)) (mCons (mB gLen (mCons (mVar 0) mNil)) mNil)) E = .ok (.int (if n < 4 then n else 4)) := mB_of (cons_of rfl (cons_of hL rfl)) rfl
  have hm2 : mB gMax2 (mCons (mC (.int 1)) (mCons (mB gMin2 (mCons (mC (.int 4)) (mCons (mB gLen (mCons (mVar 0) mNil)) mNil))) mNil)) E = .ok (.int (if (if n < 4 then n else 4) > 1 then (if n < 4 then n else 4) else 1)) := mB_of (cons_of rfl (cons_of hm rfl)) rfl
  have b : 1 ≤ (if (if n < 4 then n else 4) > 1 then (if n < 4 then n else 4) else 1) ∧ (if (if n < 4 then n else 4) > 1 then (if n < 4 then n else 4) else 1) ≤ 4 := by
    constructor <;> split <;> (try split) <;> omega
  generalize (if (if n < 4 then n else 4) > 1 then (if n < 4 then n else 4) else 1) = z at hm2 b
  exact ⟨_, rng_one hm2 (by omega) (by omega), fun d hd => let ⟨j, _, e⟩ := List.mem_map.mp hd; ⟨j, e.symm⟩⟩
theorem end_ok (E : IL.Env) : endM E = .ok (.bool true) := (show endM E = endM [] from rfl).trans (isTr_of (by decide +kernel))
theorem law_true (ns : List Int) (hlen : ns.length ≤ 63) : g_law [.list (ns.map PyData.int)] = .ok (.bool true) := by
  let s : D := .list (ns.map PyData.int)
  let env : SEnv := [some (.val s), none, none, none, none, none, none, none, none, none, none, none, none, none]
  obtain ⟨ds, hds, hj⟩ := rngN ns (hid env) rfl
  obtain ⟨e, h1, ke⟩ := loop_inv (i := 1) (b := turn) (I := Kp s) (ds := ds) (fun d hd e ke => by
    obtain ⟨j, rfl⟩ := hj d hd
    exact turn_ok hlen ke) env ⟨rfl, rfl⟩
  show outR (m_law env) = _
  rw [m_law_eq, seq_nx ((for_of hds).trans h1), ret_of (end_ok _)]
  rfl
end K70
namespace K70
open PySem PySem.Spec PyProof.Rows L2 IL
theorem mt_at {K : PySem.W.Frag} {C : Addr} {x qual : Str} {st : Stmt} {ps : List Str} {f : Addr} {oc kV dc pm cd ct : Value} {od an : Option Addr} {sl : Array (Option Value)} (a : PySem.W.findIn K (.ref C) x = some (some (.ref f)))
    (l : K.lookup f = some ⟨oc, od, .func (PySem.W.fnOf x qual (defArgs st) (defBody st) (defScope st) .none kV dc pm an cd ct), sl⟩) (c : PySem.W.codeIn K cd qual = true) (k : PySem.W.keepIn K (.ref f) = true) (n : PySem.W.isFn K (.ref f) = true)
    (b : ∀ (kV doc pm : Value) (an : Option Addr) (cdv ct : Value) (us : List Value), us.length = ps.length → bindArgs (PySem.W.fnOf x qual (defArgs st) (defBody st) (defScope st) .none kV doc pm an cdv ct) ⟨us, []⟩ = pure (ps.zip us)) :
    L2.Fun K x qual st f (PySem.W.fnOf x qual (defArgs st) (defBody st) (defScope st) .none kV dc pm an cd ct) ∧ Meth K C x f ∧ L2.Binds K (PySem.W.fnOf x qual (defArgs st) (defBody st) (defScope st) .none kV dc pm an cd ct) ps [] :=
  have F := fun_mk l c k
  ⟨F, ⟨a, n, k⟩, F.binds b⟩
theorem fun_at {K : PySem.W.Frag} {h : Heap} {mg : Str → Option Value} {x q : Str} {st : Stmt} {ps : List Str} {f : Addr} {oc kV dc pm cd ct : Value} {od an : Option Addr} {sl : Array (Option Value)} (X : K.In h) (G : h.Ns mainGlobals mg) (a : PySem.W.nsIn K mainGlobals x = some (some (.ref f)))
    (l : K.lookup f = some ⟨oc, od, .func (PySem.W.fnOf q q (defArgs st) (defBody st) (defScope st) .none kV dc pm an cd ct), sl⟩) (c : PySem.W.codeIn K cd q = true) (k : PySem.W.keepIn K (.ref f) = true)
    (b : ∀ (kV doc pm : Value) (an : Option Addr) (cdv ct : Value) (us : List Value), us.length = ps.length → bindArgs (PySem.W.fnOf q q (defArgs st) (defBody st) (defScope st) .none kV doc pm an cdv ct) ⟨us, []⟩ = pure (ps.zip us)) : FunAs K mg x q st ps :=
  have F := fun_mk l c k
  ⟨⟨_, _, F, PySem.W.mg_of X G a, F.binds b⟩⟩
theorem ints_all {K : PySem.W.Frag} {G : Hp} : ∀ ns : List Int, RpAll K G (ns.map V.int) (ns.map PyData.int)
  | [] => .nil
  | n :: ns => .cons (.int n) (ints_all ns)
def caOf (x_path : Addr) (x_state : Addr) (x_deed : Addr) (x_look : Addr) (x_number : Addr) (x_storm : Addr) (x_text : Addr) : XC → Addr
  | .path => x_path
  | .state => x_state
  | .deed => x_deed
  | .look => x_look
  | .number => x_number
  | .storm => x_storm
  | .text => x_text
theorem all_mk {w : World} {K : PySem.W.Frag} {h : Heap} {mg : Str → Option Value} {fa : Addr} (X : K.In h) (G : h.Ns mainGlobals mg) (hfa : mg "law" = some (.ref fa))
    {f0 : Addr} {oc0 kV0 dc0 pm0 ct0 : Value} {od0 an0 : Option Addr} {sl0 : Array (Option Value)} {cd0 : Value}
    {f1 : Addr} {oc1 kV1 dc1 pm1 ct1 : Value} {od1 an1 : Option Addr} {sl1 : Array (Option Value)} {cd1 : Value}
    {f2 : Addr} {oc2 kV2 dc2 pm2 ct2 : Value} {od2 an2 : Option Addr} {sl2 : Array (Option Value)} {cd2 : Value}
    {f3 : Addr} {oc3 kV3 dc3 pm3 ct3 : Value} {od3 an3 : Option Addr} {sl3 : Array (Option Value)} {cd3 : Value}
    {f4 : Addr} {oc4 kV4 dc4 pm4 ct4 : Value} {od4 an4 : Option Addr} {sl4 : Array (Option Value)} {cd4 : Value}
    {f5 : Addr} {oc5 kV5 dc5 pm5 ct5 : Value} {od5 an5 : Option Addr} {sl5 : Array (Option Value)} {cd5 : Value}
    {f6 : Addr} {oc6 kV6 dc6 pm6 ct6 : Value} {od6 an6 : Option Addr} {sl6 : Array (Option Value)} {cd6 : Value}
    {f7 : Addr} {oc7 kV7 dc7 pm7 ct7 : Value} {od7 an7 : Option Addr} {sl7 : Array (Option Value)} {cd7 : Value}
    {f8 : Addr} {oc8 kV8 dc8 pm8 ct8 : Value} {od8 an8 : Option Addr} {sl8 : Array (Option Value)} {cd8 : Value}
    {f9 : Addr} {oc9 kV9 dc9 pm9 ct9 : Value} {od9 an9 : Option Addr} {sl9 : Array (Option Value)} {cd9 : Value}
    {f10 : Addr} {oc10 kV10 dc10 pm10 ct10 : Value} {od10 an10 : Option Addr} {sl10 : Array (Option Value)} {cd10 : Value}
    {f11 : Addr} {oc11 kV11 dc11 pm11 ct11 : Value} {od11 an11 : Option Addr} {sl11 : Array (Option Value)} {cd11 : Value}
    {f12 : Addr} {oc12 kV12 dc12 pm12 ct12 : Value} {od12 an12 : Option Addr} {sl12 : Array (Option Value)} {cd12 : Value}
    {f13 : Addr} {oc13 kV13 dc13 pm13 ct13 : Value} {od13 an13 : Option Addr} {sl13 : Array (Option Value)} {cd13 : Value}
    {f14 : Addr} {oc14 kV14 dc14 pm14 ct14 : Value} {od14 an14 : Option Addr} {sl14 : Array (Option Value)} {cd14 : Value}
    {f15 : Addr} {oc15 kV15 dc15 pm15 ct15 : Value} {od15 an15 : Option Addr} {sl15 : Array (Option Value)} {cd15 : Value}
    {f16 : Addr} {oc16 kV16 dc16 pm16 ct16 : Value} {od16 an16 : Option Addr} {sl16 : Array (Option Value)} {cd16 : Value}
    {f17 : Addr} {oc17 kV17 dc17 pm17 ct17 : Value} {od17 an17 : Option Addr} {sl17 : Array (Option Value)} {cd17 : Value}
    {f18 : Addr} {oc18 kV18 dc18 pm18 ct18 : Value} {od18 an18 : Option Addr} {sl18 : Array (Option Value)} {cd18 : Value}
    {f19 : Addr} {oc19 kV19 dc19 pm19 ct19 : Value} {od19 an19 : Option Addr} {sl19 : Array (Option Value)} {cd19 : Value}
    {f20 : Addr} {oc20 kV20 dc20 pm20 ct20 : Value} {od20 an20 : Option Addr} {sl20 : Array (Option Value)} {cd20 : Value}
    {f21 : Addr} {oc21 kV21 dc21 pm21 ct21 : Value} {od21 an21 : Option Addr} {sl21 : Array (Option Value)} {cd21 : Value}
    {f22 : Addr} {oc22 kV22 dc22 pm22 ct22 : Value} {od22 an22 : Option Addr} {sl22 : Array (Option Value)} {cd22 : Value}
    {f23 : Addr} {oc23 kV23 dc23 pm23 ct23 : Value} {od23 an23 : Option Addr} {sl23 : Array (Option Value)} {cd23 : Value}
    {f24 : Addr} {oc24 kV24 dc24 pm24 ct24 : Value} {od24 an24 : Option Addr} {sl24 : Array (Option Value)} {cd24 : Value}
    {f25 : Addr} {oc25 kV25 dc25 pm25 ct25 : Value} {od25 an25 : Option Addr} {sl25 : Array (Option Value)} {cd25 : Value}
    {f26 : Addr} {oc26 kV26 dc26 pm26 ct26 : Value} {od26 an26 : Option Addr} {sl26 : Array (Option Value)} {cd26 : Value}
    {f27 : Addr} {oc27 kV27 dc27 pm27 ct27 : Value} {od27 an27 : Option Addr} {sl27 : Array (Option Value)} {cd27 : Value}
    {CR : Addr}
    {m0 : Addr} {ocm0 kVm0 dcm0 pmm0 ctm0 : Value} {odm0 anm0 : Option Addr} {slm0 : Array (Option Value)} {cm0 : Value}
    {m1 : Addr} {ocm1 kVm1 dcm1 pmm1 ctm1 : Value} {odm1 anm1 : Option Addr} {slm1 : Array (Option Value)} {cm1 : Value}
    {m2 : Addr} {ocm2 kVm2 dcm2 pmm2 ctm2 : Value} {odm2 anm2 : Option Addr} {slm2 : Array (Option Value)} {cm2 : Value}
    {m3 : Addr} {ocm3 kVm3 dcm3 pmm3 ctm3 : Value} {odm3 anm3 : Option Addr} {slm3 : Array (Option Value)} {cm3 : Value}
    {m4 : Addr} {ocm4 kVm4 dcm4 pmm4 ctm4 : Value} {odm4 anm4 : Option Addr} {slm4 : Array (Option Value)} {cm4 : Value}
    {fL : Addr} {ocL kVL dcL pmL ctL : Value} {odL anL : Option Addr} {slL : Array (Option Value)} {cdL PL : Addr}
    {ocL2 : Value} {odL2 : Option Addr} {vsL : Array Value} {slL2 : Array (Option Value)}
    {xS : Addr}
    {x_path : Addr}
    {x_state : Addr}
    {x_deed : Addr}
    {x_look : Addr}
    {x_number : Addr}
    {x_storm : Addr}
    {x_text : Addr}
    {t_MOST_WORD : Tok}
    {t_MOST_DEEP : Tok}
    {t_MOST_WORTH : Tok}
    {t_MOST_NUMBER : Tok}
    {t_MOST_WITHIN : Tok}
    {t_MOST_FIGURES : Tok}
    {t_SMALL : Tok}
    {t_FIGURES : Tok}
    {p_READING nn_READING : Nat} {oc_READING : Option Addr} {sl_READING : Array (Option Value)} {u_READING0 : Tok} {u_READING1 : Tok} {u_READING2 : Tok} {u_READING3 : Tok}
    {p_TWO nn_TWO : Nat} {oc_TWO : Option Addr} {sl_TWO : Array (Option Value)} {u_TWO0 : Tok} {u_TWO1 : Tok} {u_TWO2 : Tok} {u_TWO3 : Tok} {u_TWO4 : Tok}
    (a0 : PySem.W.nsIn K mainGlobals "is_word" = some (some (.ref f0)))
    (l0 : K.lookup f0 = some ⟨oc0, od0, .func (PySem.W.fnOf "is_word" "is_word" (defArgs s_is_word) (defBody s_is_word) (defScope s_is_word) .none kV0 dc0 pm0 an0 cd0 ct0), sl0⟩)
    (c0 : PySem.W.codeIn K cd0 "is_word" = true)
    (k0 : PySem.W.keepIn K (.ref f0) = true)
    (a1 : PySem.W.nsIn K mainGlobals "is_path" = some (some (.ref f1)))
    (l1 : K.lookup f1 = some ⟨oc1, od1, .func (PySem.W.fnOf "is_path" "is_path" (defArgs s_is_path) (defBody s_is_path) (defScope s_is_path) .none kV1 dc1 pm1 an1 cd1 ct1), sl1⟩)
    (c1 : PySem.W.codeIn K cd1 "is_path" = true)
    (k1 : PySem.W.keepIn K (.ref f1) = true)
    (a2 : PySem.W.nsIn K mainGlobals "is_number" = some (some (.ref f2)))
    (l2 : K.lookup f2 = some ⟨oc2, od2, .func (PySem.W.fnOf "is_number" "is_number" (defArgs s_is_number) (defBody s_is_number) (defScope s_is_number) .none kV2 dc2 pm2 an2 cd2 ct2), sl2⟩)
    (c2 : PySem.W.codeIn K cd2 "is_number" = true)
    (k2 : PySem.W.keepIn K (.ref f2) = true)
    (a3 : PySem.W.nsIn K mainGlobals "is_state" = some (some (.ref f3)))
    (l3 : K.lookup f3 = some ⟨oc3, od3, .func (PySem.W.fnOf "is_state" "is_state" (defArgs s_is_state) (defBody s_is_state) (defScope s_is_state) .none kV3 dc3 pm3 an3 cd3 ct3), sl3⟩)
    (c3 : PySem.W.codeIn K cd3 "is_state" = true)
    (k3 : PySem.W.keepIn K (.ref f3) = true)
    (a4 : PySem.W.nsIn K mainGlobals "need_state" = some (some (.ref f4)))
    (l4 : K.lookup f4 = some ⟨oc4, od4, .func (PySem.W.fnOf "need_state" "need_state" (defArgs s_need_state) (defBody s_need_state) (defScope s_need_state) .none kV4 dc4 pm4 an4 cd4 ct4), sl4⟩)
    (c4 : PySem.W.codeIn K cd4 "need_state" = true)
    (k4 : PySem.W.keepIn K (.ref f4) = true)
    (a5 : PySem.W.nsIn K mainGlobals "need" = some (some (.ref f5)))
    (l5 : K.lookup f5 = some ⟨oc5, od5, .func (PySem.W.fnOf "need" "need" (defArgs s_need) (defBody s_need) (defScope s_need) .none kV5 dc5 pm5 an5 cd5 ct5), sl5⟩)
    (c5 : PySem.W.codeIn K cd5 "need" = true)
    (k5 : PySem.W.keepIn K (.ref f5) = true)
    (a6 : PySem.W.nsIn K mainGlobals "need_deep" = some (some (.ref f6)))
    (l6 : K.lookup f6 = some ⟨oc6, od6, .func (PySem.W.fnOf "need_deep" "need_deep" (defArgs s_need_deep) (defBody s_need_deep) (defScope s_need_deep) .none kV6 dc6 pm6 an6 cd6 ct6), sl6⟩)
    (c6 : PySem.W.codeIn K cd6 "need_deep" = true)
    (k6 : PySem.W.keepIn K (.ref f6) = true)
    (a7 : PySem.W.nsIn K mainGlobals "need_term" = some (some (.ref f7)))
    (l7 : K.lookup f7 = some ⟨oc7, od7, .func (PySem.W.fnOf "need_term" "need_term" (defArgs s_need_term) (defBody s_need_term) (defScope s_need_term) .none kV7 dc7 pm7 an7 cd7 ct7), sl7⟩)
    (c7 : PySem.W.codeIn K cd7 "need_term" = true)
    (k7 : PySem.W.keepIn K (.ref f7) = true)
    (a8 : PySem.W.nsIn K mainGlobals "need_text" = some (some (.ref f8)))
    (l8 : K.lookup f8 = some ⟨oc8, od8, .func (PySem.W.fnOf "need_text" "need_text" (defArgs s_need_text) (defBody s_need_text) (defScope s_need_text) .none kV8 dc8 pm8 an8 cd8 ct8), sl8⟩)
    (c8 : PySem.W.codeIn K cd8 "need_text" = true)
    (k8 : PySem.W.keepIn K (.ref f8) = true)
    (a9 : PySem.W.nsIn K mainGlobals "path_text" = some (some (.ref f9)))
    (l9 : K.lookup f9 = some ⟨oc9, od9, .func (PySem.W.fnOf "path_text" "path_text" (defArgs s_path_text) (defBody s_path_text) (defScope s_path_text) .none kV9 dc9 pm9 an9 cd9 ct9), sl9⟩)
    (c9 : PySem.W.codeIn K cd9 "path_text" = true)
    (k9 : PySem.W.keepIn K (.ref f9) = true)
    (a10 : PySem.W.nsIn K mainGlobals "path_in" = some (some (.ref f10)))
    (l10 : K.lookup f10 = some ⟨oc10, od10, .func (PySem.W.fnOf "path_in" "path_in" (defArgs s_path_in) (defBody s_path_in) (defScope s_path_in) .none kV10 dc10 pm10 an10 cd10 ct10), sl10⟩)
    (c10 : PySem.W.codeIn K cd10 "path_in" = true)
    (k10 : PySem.W.keepIn K (.ref f10) = true)
    (a11 : PySem.W.nsIn K mainGlobals "number_in" = some (some (.ref f11)))
    (l11 : K.lookup f11 = some ⟨oc11, od11, .func (PySem.W.fnOf "number_in" "number_in" (defArgs s_number_in) (defBody s_number_in) (defScope s_number_in) .none kV11 dc11 pm11 an11 cd11 ct11), sl11⟩)
    (c11 : PySem.W.codeIn K cd11 "number_in" = true)
    (k11 : PySem.W.keepIn K (.ref f11) = true)
    (a12 : PySem.W.nsIn K mainGlobals "state_text" = some (some (.ref f12)))
    (l12 : K.lookup f12 = some ⟨oc12, od12, .func (PySem.W.fnOf "state_text" "state_text" (defArgs s_state_text) (defBody s_state_text) (defScope s_state_text) .none kV12 dc12 pm12 an12 cd12 ct12), sl12⟩)
    (c12 : PySem.W.codeIn K cd12 "state_text" = true)
    (k12 : PySem.W.keepIn K (.ref f12) = true)
    (a13 : PySem.W.nsIn K mainGlobals "state_in" = some (some (.ref f13)))
    (l13 : K.lookup f13 = some ⟨oc13, od13, .func (PySem.W.fnOf "state_in" "state_in" (defArgs s_state_in) (defBody s_state_in) (defScope s_state_in) .none kV13 dc13 pm13 an13 cd13 ct13), sl13⟩)
    (c13 : PySem.W.codeIn K cd13 "state_in" = true)
    (k13 : PySem.W.keepIn K (.ref f13) = true)
    (a14 : PySem.W.nsIn K mainGlobals "text_of" = some (some (.ref f14)))
    (l14 : K.lookup f14 = some ⟨oc14, od14, .func (PySem.W.fnOf "text_of" "text_of" (defArgs s_text_of) (defBody s_text_of) (defScope s_text_of) .none kV14 dc14 pm14 an14 cd14 ct14), sl14⟩)
    (c14 : PySem.W.codeIn K cd14 "text_of" = true)
    (k14 : PySem.W.keepIn K (.ref f14) = true)
    (a15 : PySem.W.nsIn K mainGlobals "term_text" = some (some (.ref f15)))
    (l15 : K.lookup f15 = some ⟨oc15, od15, .func (PySem.W.fnOf "term_text" "term_text" (defArgs s_term_text) (defBody s_term_text) (defScope s_term_text) .none kV15 dc15 pm15 an15 cd15 ct15), sl15⟩)
    (c15 : PySem.W.codeIn K cd15 "term_text" = true)
    (k15 : PySem.W.keepIn K (.ref f15) = true)
    (a16 : PySem.W.nsIn K mainGlobals "term_in" = some (some (.ref f16)))
    (l16 : K.lookup f16 = some ⟨oc16, od16, .func (PySem.W.fnOf "term_in" "term_in" (defArgs s_term_in) (defBody s_term_in) (defScope s_term_in) .none kV16 dc16 pm16 an16 cd16 ct16), sl16⟩)
    (c16 : PySem.W.codeIn K cd16 "term_in" = true)
    (k16 : PySem.W.keepIn K (.ref f16) = true)
    (a17 : PySem.W.nsIn K mainGlobals "_law_cell" = some (some (.ref f17)))
    (l17 : K.lookup f17 = some ⟨oc17, od17, .func (PySem.W.fnOf "_law_cell" "_law_cell" (defArgs s_law_cell) (defBody s_law_cell) (defScope s_law_cell) .none kV17 dc17 pm17 an17 cd17 ct17), sl17⟩)
    (c17 : PySem.W.codeIn K cd17 "_law_cell" = true)
    (k17 : PySem.W.keepIn K (.ref f17) = true)
    (a18 : PySem.W.nsIn K mainGlobals "_law_drawn" = some (some (.ref f18)))
    (l18 : K.lookup f18 = some ⟨oc18, od18, .func (PySem.W.fnOf "_law_drawn" "_law_drawn" (defArgs s_law_drawn) (defBody s_law_drawn) (defScope s_law_drawn) .none kV18 dc18 pm18 an18 cd18 ct18), sl18⟩)
    (c18 : PySem.W.codeIn K cd18 "_law_drawn" = true)
    (k18 : PySem.W.keepIn K (.ref f18) = true)
    (a19 : PySem.W.nsIn K mainGlobals "_law_path" = some (some (.ref f19)))
    (l19 : K.lookup f19 = some ⟨oc19, od19, .func (PySem.W.fnOf "_law_path" "_law_path" (defArgs s_law_path) (defBody s_law_path) (defScope s_law_path) .none kV19 dc19 pm19 an19 cd19 ct19), sl19⟩)
    (c19 : PySem.W.codeIn K cd19 "_law_path" = true)
    (k19 : PySem.W.keepIn K (.ref f19) = true)
    (a20 : PySem.W.nsIn K mainGlobals "_law_state" = some (some (.ref f20)))
    (l20 : K.lookup f20 = some ⟨oc20, od20, .func (PySem.W.fnOf "_law_state" "_law_state" (defArgs s_law_state) (defBody s_law_state) (defScope s_law_state) .none kV20 dc20 pm20 an20 cd20 ct20), sl20⟩)
    (c20 : PySem.W.codeIn K cd20 "_law_state" = true)
    (k20 : PySem.W.keepIn K (.ref f20) = true)
    (a21 : PySem.W.nsIn K mainGlobals "_law_is_state" = some (some (.ref f21)))
    (l21 : K.lookup f21 = some ⟨oc21, od21, .func (PySem.W.fnOf "_law_is_state" "_law_is_state" (defArgs s_law_is_state) (defBody s_law_is_state) (defScope s_law_is_state) .none kV21 dc21 pm21 an21 cd21 ct21), sl21⟩)
    (c21 : PySem.W.codeIn K cd21 "_law_is_state" = true)
    (k21 : PySem.W.keepIn K (.ref f21) = true)
    (a22 : PySem.W.nsIn K mainGlobals "_law_term" = some (some (.ref f22)))
    (l22 : K.lookup f22 = some ⟨oc22, od22, .func (PySem.W.fnOf "_law_term" "_law_term" (defArgs s_law_term) (defBody s_law_term) (defScope s_law_term) .none kV22 dc22 pm22 an22 cd22 ct22), sl22⟩)
    (c22 : PySem.W.codeIn K cd22 "_law_term" = true)
    (k22 : PySem.W.keepIn K (.ref f22) = true)
    (a23 : PySem.W.nsIn K mainGlobals "_law_path_text" = some (some (.ref f23)))
    (l23 : K.lookup f23 = some ⟨oc23, od23, .func (PySem.W.fnOf "_law_path_text" "_law_path_text" (defArgs s_law_path_text) (defBody s_law_path_text) (defScope s_law_path_text) .none kV23 dc23 pm23 an23 cd23 ct23), sl23⟩)
    (c23 : PySem.W.codeIn K cd23 "_law_path_text" = true)
    (k23 : PySem.W.keepIn K (.ref f23) = true)
    (a24 : PySem.W.nsIn K mainGlobals "_law_state_text" = some (some (.ref f24)))
    (l24 : K.lookup f24 = some ⟨oc24, od24, .func (PySem.W.fnOf "_law_state_text" "_law_state_text" (defArgs s_law_state_text) (defBody s_law_state_text) (defScope s_law_state_text) .none kV24 dc24 pm24 an24 cd24 ct24), sl24⟩)
    (c24 : PySem.W.codeIn K cd24 "_law_state_text" = true)
    (k24 : PySem.W.keepIn K (.ref f24) = true)
    (a25 : PySem.W.nsIn K mainGlobals "_law_term_text" = some (some (.ref f25)))
    (l25 : K.lookup f25 = some ⟨oc25, od25, .func (PySem.W.fnOf "_law_term_text" "_law_term_text" (defArgs s_law_term_text) (defBody s_law_term_text) (defScope s_law_term_text) .none kV25 dc25 pm25 an25 cd25 ct25), sl25⟩)
    (c25 : PySem.W.codeIn K cd25 "_law_term_text" = true)
    (k25 : PySem.W.keepIn K (.ref f25) = true)
    (a26 : PySem.W.nsIn K mainGlobals "_law_word" = some (some (.ref f26)))
    (l26 : K.lookup f26 = some ⟨oc26, od26, .func (PySem.W.fnOf "_law_word" "_law_word" (defArgs s_word) (defBody s_word) (defScope s_word) .none kV26 dc26 pm26 an26 cd26 ct26), sl26⟩)
    (c26 : PySem.W.codeIn K cd26 "_law_word" = true)
    (k26 : PySem.W.keepIn K (.ref f26) = true)
    (a27 : PySem.W.nsIn K mainGlobals "_law_told" = some (some (.ref f27)))
    (l27 : K.lookup f27 = some ⟨oc27, od27, .func (PySem.W.fnOf "_law_told" "_law_told" (defArgs s_told) (defBody s_told) (defScope s_told) .none kV27 dc27 pm27 an27 cd27 ct27), sl27⟩)
    (c27 : PySem.W.codeIn K cd27 "_law_told" = true)
    (k27 : PySem.W.keepIn K (.ref f27) = true)
    (CR_g : PySem.W.nsIn K mainGlobals "Reading" = some (some (.ref CR)))
    (CR_pg : PySem.W.plainGet K CR Str.empty = true)
    (CR_hd : PySem.W.hasDictIn K CR = true)
    (CR_po : PySem.W.plainOver K CR = true)
    (CR_sa : PySem.W.findIn K (.ref CR) "__setattr__" = some (some (.builtin "object.__setattr__")))
    (CR_n_words : PySem.W.findIn K (.ref CR) "words" = some none)
    (CR_n_spot : PySem.W.findIn K (.ref CR) "spot" = some none)
    (CR_mk : PySem.W.makesIn K CR = true)
    (CR_kp : PySem.W.keepIn K (.ref CR) = true)
    (ma0 : PySem.W.findIn K (.ref CR) "__init__" = some (some (.ref m0)))
    (ml0 : K.lookup m0 = some ⟨ocm0, odm0, .func (PySem.W.fnOf "__init__" "Reading.__init__" (defArgs s_rinit) (defBody s_rinit) (defScope s_rinit) .none kVm0 dcm0 pmm0 anm0 cm0 ctm0), slm0⟩)
    (mc0 : PySem.W.codeIn K cm0 "Reading.__init__" = true)
    (mk0 : PySem.W.keepIn K (.ref m0) = true)
    (mf0 : PySem.W.isFn K (.ref m0) = true)
    (ma1 : PySem.W.findIn K (.ref CR) "next_word" = some (some (.ref m1)))
    (ml1 : K.lookup m1 = some ⟨ocm1, odm1, .func (PySem.W.fnOf "next_word" "Reading.next_word" (defArgs s_rnext) (defBody s_rnext) (defScope s_rnext) .none kVm1 dcm1 pmm1 anm1 cm1 ctm1), slm1⟩)
    (mc1 : PySem.W.codeIn K cm1 "Reading.next_word" = true)
    (mk1 : PySem.W.keepIn K (.ref m1) = true)
    (mf1 : PySem.W.isFn K (.ref m1) = true)
    (ma2 : PySem.W.findIn K (.ref CR) "take" = some (some (.ref m2)))
    (ml2 : K.lookup m2 = some ⟨ocm2, odm2, .func (PySem.W.fnOf "take" "Reading.take" (defArgs s_rtake) (defBody s_rtake) (defScope s_rtake) .none kVm2 dcm2 pmm2 anm2 cm2 ctm2), slm2⟩)
    (mc2 : PySem.W.codeIn K cm2 "Reading.take" = true)
    (mk2 : PySem.W.keepIn K (.ref m2) = true)
    (mf2 : PySem.W.isFn K (.ref m2) = true)
    (ma3 : PySem.W.findIn K (.ref CR) "term" = some (some (.ref m3)))
    (ml3 : K.lookup m3 = some ⟨ocm3, odm3, .func (PySem.W.fnOf "term" "Reading.term" (defArgs s_rterm) (defBody s_rterm) (defScope s_rterm) .none kVm3 dcm3 pmm3 anm3 cm3 ctm3), slm3⟩)
    (mc3 : PySem.W.codeIn K cm3 "Reading.term" = true)
    (mk3 : PySem.W.keepIn K (.ref m3) = true)
    (mf3 : PySem.W.isFn K (.ref m3) = true)
    (ma4 : PySem.W.findIn K (.ref CR) "inner" = some (some (.ref m4)))
    (ml4 : K.lookup m4 = some ⟨ocm4, odm4, .func (PySem.W.fnOf "inner" "Reading.inner" (defArgs s_rinner) (defBody s_rinner) (defScope s_rinner) .none kVm4 dcm4 pmm4 anm4 cm4 ctm4), slm4⟩)
    (mc4 : PySem.W.codeIn K cm4 "Reading.inner" = true)
    (mk4 : PySem.W.keepIn K (.ref m4) = true)
    (mf4 : PySem.W.isFn K (.ref m4) = true)
    (aL : PySem.W.nsIn K mainGlobals "law" = some (some (.ref fL)))
    (lL : K.lookup fL = some ⟨ocL, odL, .func (PySem.W.fnOf "law" "law" (defArgs s_law) (defBody s_law) (defScope s_law) .none kVL dcL pmL anL (.ref cdL) ctL), slL⟩)
    (cL : PySem.W.codeIn K (.ref cdL) "law" = true)
    (oL : K.lookup cdL = some ⟨ocL2, odL2, .fields vsL, slL2⟩)
    (eL : vsL[11]? = some (.ref PL))
    (hL : PySem.W.codeHdIn K cdL PL = true)
    (nL : K.lookup PL = none)
    (gS : PySem.W.nsIn K mainGlobals "LookError" = some (some (.ref xS)))
    (g_path : PySem.W.nsIn K mainGlobals "BadPath" = some (some (.ref x_path)))
    (hg_path : PySem.W.findIn K (.ref x_path) "__getattribute__" = some (some (.builtin "BaseException.__getattribute__")))
    (hk_path : PySem.W.findIn K (.ref x_path) "__getattr__" = some none)
    (hs_path : PySem.W.subIn K (.ref x_path) (.type "BaseException") = some true)
    (hd_path : PySem.W.hasDictIn K x_path = true)
    (ha_path : PySem.W.findIn K (.ref x_path) "__class__" = some (some (.builtin "object.__class__")))
    (hm_path : PySem.W.mroIn K x_path (.type "object") = some true)
    (kv_path : PySem.W.kitOne K (.ref x_path) (.type "ValueError") = some true)
    (ex_path : PySem.W.exmOne K (.ref x_path) (.ref xS) = some true)
    (ki_path_path : PySem.W.kitOne K (.ref x_path) (.ref x_path) = some true)
    (ki_path_state : PySem.W.kitOne K (.ref x_path) (.ref x_state) = some false)
    (ki_path_deed : PySem.W.kitOne K (.ref x_path) (.ref x_deed) = some false)
    (ki_path_look : PySem.W.kitOne K (.ref x_path) (.ref x_look) = some false)
    (ki_path_number : PySem.W.kitOne K (.ref x_path) (.ref x_number) = some false)
    (ki_path_storm : PySem.W.kitOne K (.ref x_path) (.ref x_storm) = some false)
    (ki_path_text : PySem.W.kitOne K (.ref x_path) (.ref x_text) = some false)
    (g_state : PySem.W.nsIn K mainGlobals "BadState" = some (some (.ref x_state)))
    (q_state : PySem.W.excIn K x_state [.type "ValueError", .type "Exception", .type "BaseException", .type "object"] "ValueError.__new__" = true)
    (kp_state : PySem.W.keepIn K (.ref x_state) = true)
    (ty_state : PySem.W.typeIn K (.ref x_state) = some (.type "type"))
    (hg_state : PySem.W.findIn K (.ref x_state) "__getattribute__" = some (some (.builtin "BaseException.__getattribute__")))
    (hk_state : PySem.W.findIn K (.ref x_state) "__getattr__" = some none)
    (hs_state : PySem.W.subIn K (.ref x_state) (.type "BaseException") = some true)
    (hd_state : PySem.W.hasDictIn K x_state = true)
    (ha_state : PySem.W.findIn K (.ref x_state) "__class__" = some (some (.builtin "object.__class__")))
    (hm_state : PySem.W.mroIn K x_state (.type "object") = some true)
    (kv_state : PySem.W.kitOne K (.ref x_state) (.type "ValueError") = some true)
    (ex_state : PySem.W.exmOne K (.ref x_state) (.ref xS) = some true)
    (ki_state_path : PySem.W.kitOne K (.ref x_state) (.ref x_path) = some false)
    (ki_state_state : PySem.W.kitOne K (.ref x_state) (.ref x_state) = some true)
    (ki_state_deed : PySem.W.kitOne K (.ref x_state) (.ref x_deed) = some false)
    (ki_state_look : PySem.W.kitOne K (.ref x_state) (.ref x_look) = some false)
    (ki_state_number : PySem.W.kitOne K (.ref x_state) (.ref x_number) = some false)
    (ki_state_storm : PySem.W.kitOne K (.ref x_state) (.ref x_storm) = some false)
    (ki_state_text : PySem.W.kitOne K (.ref x_state) (.ref x_text) = some false)
    (g_deed : PySem.W.nsIn K mainGlobals "BadDeed" = some (some (.ref x_deed)))
    (hg_deed : PySem.W.findIn K (.ref x_deed) "__getattribute__" = some (some (.builtin "BaseException.__getattribute__")))
    (hk_deed : PySem.W.findIn K (.ref x_deed) "__getattr__" = some none)
    (hs_deed : PySem.W.subIn K (.ref x_deed) (.type "BaseException") = some true)
    (hd_deed : PySem.W.hasDictIn K x_deed = true)
    (ha_deed : PySem.W.findIn K (.ref x_deed) "__class__" = some (some (.builtin "object.__class__")))
    (hm_deed : PySem.W.mroIn K x_deed (.type "object") = some true)
    (kv_deed : PySem.W.kitOne K (.ref x_deed) (.type "ValueError") = some true)
    (ex_deed : PySem.W.exmOne K (.ref x_deed) (.ref xS) = some true)
    (ki_deed_path : PySem.W.kitOne K (.ref x_deed) (.ref x_path) = some false)
    (ki_deed_state : PySem.W.kitOne K (.ref x_deed) (.ref x_state) = some false)
    (ki_deed_deed : PySem.W.kitOne K (.ref x_deed) (.ref x_deed) = some true)
    (ki_deed_look : PySem.W.kitOne K (.ref x_deed) (.ref x_look) = some false)
    (ki_deed_number : PySem.W.kitOne K (.ref x_deed) (.ref x_number) = some false)
    (ki_deed_storm : PySem.W.kitOne K (.ref x_deed) (.ref x_storm) = some false)
    (ki_deed_text : PySem.W.kitOne K (.ref x_deed) (.ref x_text) = some false)
    (g_look : PySem.W.nsIn K mainGlobals "BadLook" = some (some (.ref x_look)))
    (q_look : PySem.W.excIn K x_look [.type "ValueError", .type "Exception", .type "BaseException", .type "object"] "ValueError.__new__" = true)
    (kp_look : PySem.W.keepIn K (.ref x_look) = true)
    (ty_look : PySem.W.typeIn K (.ref x_look) = some (.type "type"))
    (hg_look : PySem.W.findIn K (.ref x_look) "__getattribute__" = some (some (.builtin "BaseException.__getattribute__")))
    (hk_look : PySem.W.findIn K (.ref x_look) "__getattr__" = some none)
    (hs_look : PySem.W.subIn K (.ref x_look) (.type "BaseException") = some true)
    (hd_look : PySem.W.hasDictIn K x_look = true)
    (ha_look : PySem.W.findIn K (.ref x_look) "__class__" = some (some (.builtin "object.__class__")))
    (hm_look : PySem.W.mroIn K x_look (.type "object") = some true)
    (kv_look : PySem.W.kitOne K (.ref x_look) (.type "ValueError") = some true)
    (ex_look : PySem.W.exmOne K (.ref x_look) (.ref xS) = some true)
    (ki_look_path : PySem.W.kitOne K (.ref x_look) (.ref x_path) = some false)
    (ki_look_state : PySem.W.kitOne K (.ref x_look) (.ref x_state) = some false)
    (ki_look_deed : PySem.W.kitOne K (.ref x_look) (.ref x_deed) = some false)
    (ki_look_look : PySem.W.kitOne K (.ref x_look) (.ref x_look) = some true)
    (ki_look_number : PySem.W.kitOne K (.ref x_look) (.ref x_number) = some false)
    (ki_look_storm : PySem.W.kitOne K (.ref x_look) (.ref x_storm) = some false)
    (ki_look_text : PySem.W.kitOne K (.ref x_look) (.ref x_text) = some false)
    (g_number : PySem.W.nsIn K mainGlobals "BadNumber" = some (some (.ref x_number)))
    (hg_number : PySem.W.findIn K (.ref x_number) "__getattribute__" = some (some (.builtin "BaseException.__getattribute__")))
    (hk_number : PySem.W.findIn K (.ref x_number) "__getattr__" = some none)
    (hs_number : PySem.W.subIn K (.ref x_number) (.type "BaseException") = some true)
    (hd_number : PySem.W.hasDictIn K x_number = true)
    (ha_number : PySem.W.findIn K (.ref x_number) "__class__" = some (some (.builtin "object.__class__")))
    (hm_number : PySem.W.mroIn K x_number (.type "object") = some true)
    (kv_number : PySem.W.kitOne K (.ref x_number) (.type "ValueError") = some true)
    (ex_number : PySem.W.exmOne K (.ref x_number) (.ref xS) = some true)
    (ki_number_path : PySem.W.kitOne K (.ref x_number) (.ref x_path) = some false)
    (ki_number_state : PySem.W.kitOne K (.ref x_number) (.ref x_state) = some false)
    (ki_number_deed : PySem.W.kitOne K (.ref x_number) (.ref x_deed) = some false)
    (ki_number_look : PySem.W.kitOne K (.ref x_number) (.ref x_look) = some false)
    (ki_number_number : PySem.W.kitOne K (.ref x_number) (.ref x_number) = some true)
    (ki_number_storm : PySem.W.kitOne K (.ref x_number) (.ref x_storm) = some false)
    (ki_number_text : PySem.W.kitOne K (.ref x_number) (.ref x_text) = some false)
    (g_storm : PySem.W.nsIn K mainGlobals "Storm" = some (some (.ref x_storm)))
    (hg_storm : PySem.W.findIn K (.ref x_storm) "__getattribute__" = some (some (.builtin "BaseException.__getattribute__")))
    (hk_storm : PySem.W.findIn K (.ref x_storm) "__getattr__" = some none)
    (hs_storm : PySem.W.subIn K (.ref x_storm) (.type "BaseException") = some true)
    (hd_storm : PySem.W.hasDictIn K x_storm = true)
    (ha_storm : PySem.W.findIn K (.ref x_storm) "__class__" = some (some (.builtin "object.__class__")))
    (hm_storm : PySem.W.mroIn K x_storm (.type "object") = some true)
    (kv_storm : PySem.W.kitOne K (.ref x_storm) (.type "ValueError") = some true)
    (ex_storm : PySem.W.exmOne K (.ref x_storm) (.ref xS) = some true)
    (ki_storm_path : PySem.W.kitOne K (.ref x_storm) (.ref x_path) = some false)
    (ki_storm_state : PySem.W.kitOne K (.ref x_storm) (.ref x_state) = some false)
    (ki_storm_deed : PySem.W.kitOne K (.ref x_storm) (.ref x_deed) = some false)
    (ki_storm_look : PySem.W.kitOne K (.ref x_storm) (.ref x_look) = some false)
    (ki_storm_number : PySem.W.kitOne K (.ref x_storm) (.ref x_number) = some false)
    (ki_storm_storm : PySem.W.kitOne K (.ref x_storm) (.ref x_storm) = some true)
    (ki_storm_text : PySem.W.kitOne K (.ref x_storm) (.ref x_text) = some false)
    (g_text : PySem.W.nsIn K mainGlobals "BadText" = some (some (.ref x_text)))
    (q_text : PySem.W.excIn K x_text [.type "ValueError", .type "Exception", .type "BaseException", .type "object"] "ValueError.__new__" = true)
    (kp_text : PySem.W.keepIn K (.ref x_text) = true)
    (ty_text : PySem.W.typeIn K (.ref x_text) = some (.type "type"))
    (hg_text : PySem.W.findIn K (.ref x_text) "__getattribute__" = some (some (.builtin "BaseException.__getattribute__")))
    (hk_text : PySem.W.findIn K (.ref x_text) "__getattr__" = some none)
    (hs_text : PySem.W.subIn K (.ref x_text) (.type "BaseException") = some true)
    (hd_text : PySem.W.hasDictIn K x_text = true)
    (ha_text : PySem.W.findIn K (.ref x_text) "__class__" = some (some (.builtin "object.__class__")))
    (hm_text : PySem.W.mroIn K x_text (.type "object") = some true)
    (kv_text : PySem.W.kitOne K (.ref x_text) (.type "ValueError") = some true)
    (ex_text : PySem.W.exmOne K (.ref x_text) (.ref xS) = some true)
    (ki_text_path : PySem.W.kitOne K (.ref x_text) (.ref x_path) = some false)
    (ki_text_state : PySem.W.kitOne K (.ref x_text) (.ref x_state) = some false)
    (ki_text_deed : PySem.W.kitOne K (.ref x_text) (.ref x_deed) = some false)
    (ki_text_look : PySem.W.kitOne K (.ref x_text) (.ref x_look) = some false)
    (ki_text_number : PySem.W.kitOne K (.ref x_text) (.ref x_number) = some false)
    (ki_text_storm : PySem.W.kitOne K (.ref x_text) (.ref x_storm) = some false)
    (ki_text_text : PySem.W.kitOne K (.ref x_text) (.ref x_text) = some true)
    (hn : PySem.W.specialIn K (.builtin "object.__class__") "__get__" = some (some (.builtin "getset_descriptor.__get__")))
    (ht : PySem.W.takesIn K (.builtin "object.__class__") = some true)
    (n_MOST_WORD : PySem.W.nsIn K mainGlobals "MOST_WORD" = some (some (.int 6 t_MOST_WORD)))
    (n_MOST_DEEP : PySem.W.nsIn K mainGlobals "MOST_DEEP" = some (some (.int 4 t_MOST_DEEP)))
    (n_MOST_WORTH : PySem.W.nsIn K mainGlobals "MOST_WORTH" = some (some (.int 1000000000 t_MOST_WORTH)))
    (n_MOST_NUMBER : PySem.W.nsIn K mainGlobals "MOST_NUMBER" = some (some (.int 1000000000 t_MOST_NUMBER)))
    (n_MOST_WITHIN : PySem.W.nsIn K mainGlobals "MOST_WITHIN" = some (some (.int 8 t_MOST_WITHIN)))
    (n_MOST_FIGURES : PySem.W.nsIn K mainGlobals "MOST_FIGURES" = some (some (.int 10 t_MOST_FIGURES)))
    (n_SMALL : PySem.W.nsIn K mainGlobals "SMALL" = some (some (.str "abcdefghijklmnopqrstuvwxyz" t_SMALL)))
    (n_FIGURES : PySem.W.nsIn K mainGlobals "FIGURES" = some (some (.str "0123456789" t_FIGURES)))
    (b_isinstance : PySem.W.nsIn K mainGlobals "isinstance" = some none)
    (b_str : PySem.W.nsIn K mainGlobals "str" = some none)
    (b_tuple : PySem.W.nsIn K mainGlobals "tuple" = some none)
    (b_dict : PySem.W.nsIn K mainGlobals "dict" = some none)
    (b_int : PySem.W.nsIn K mainGlobals "int" = some none)
    (b_bool : PySem.W.nsIn K mainGlobals "bool" = some none)
    (b_len : PySem.W.nsIn K mainGlobals "len" = some none)
    (b_abs : PySem.W.nsIn K mainGlobals "abs" = some none)
    (b_all : PySem.W.nsIn K mainGlobals "all" = some none)
    (b_any : PySem.W.nsIn K mainGlobals "any" = some none)
    (b_sum : PySem.W.nsIn K mainGlobals "sum" = some none)
    (b_max : PySem.W.nsIn K mainGlobals "max" = some none)
    (b_min : PySem.W.nsIn K mainGlobals "min" = some none)
    (b_range : PySem.W.nsIn K mainGlobals "range" = some none)
    (b_sorted : PySem.W.nsIn K mainGlobals "sorted" = some none)
    (b_list : PySem.W.nsIn K mainGlobals "list" = some none)
    (b_ValueError : PySem.W.nsIn K mainGlobals "ValueError" = some none)
    (kx_look : PySem.W.exmOne K (.ref x_look) (.ref x_look) = some true)
    (sg_READING : PySem.W.nsIn K mainGlobals "READING" = some (some (.ref p_READING)))
    (sl_READING' : K.lookup p_READING = some ⟨.type "tuple", oc_READING, .seq #[.str "at" u_READING0, .str "there" u_READING1, .str "sum" u_READING2, .str "many" u_READING3] nn_READING, sl_READING⟩)
    (sg_TWO : PySem.W.nsIn K mainGlobals "TWO" = some (some (.ref p_TWO)))
    (sl_TWO' : K.lookup p_TWO = some ⟨.type "tuple", oc_TWO, .seq #[.str "plus" u_TWO0, .str "less" u_TWO1, .str "times" u_TWO2, .str "same" u_TWO3, .str "below" u_TWO4] nn_TWO, sl_TWO⟩)
    (tbPL : h.get? PL = some { cls := .none, data := .fields #[] }) :
    LamX.LawAtS PySem.Challenge.rw_lookhouse_k70_whole_written w K (L2N.CX PySem.Challenge.rw_lookhouse_k70_whole_written.prog w) 25 63 "_law_script" mg fa h := by
  have mgo := fun {n : Str} {v : Value} (e : PySem.W.nsIn K mainGlobals n = some (some v)) => PySem.W.mg_of X G e
  have mgn := fun {n : Str} (e : PySem.W.nsIn K mainGlobals n = some none) => PySem.W.mg_none_of X G e
  cases hfa.symm.trans (mgo aL)
  have eC : ∀ c ∈ seven, ExcC K ((caOf x_path x_state x_deed x_look x_number x_storm x_text) c) := fun c hc => by
    cases c
    case path => exact ⟨hg_path, hk_path, hs_path, hd_path, ha_path, hn, ht, hm_path⟩
    case state => exact ⟨hg_state, hk_state, hs_state, hd_state, ha_state, hn, ht, hm_state⟩
    case deed => exact ⟨hg_deed, hk_deed, hs_deed, hd_deed, ha_deed, hn, ht, hm_deed⟩
    case look => exact ⟨hg_look, hk_look, hs_look, hd_look, ha_look, hn, ht, hm_look⟩
    case number => exact ⟨hg_number, hk_number, hs_number, hd_number, ha_number, hn, ht, hm_number⟩
    case storm => exact ⟨hg_storm, hk_storm, hs_storm, hd_storm, ha_storm, hn, ht, hm_storm⟩
    case text => exact ⟨hg_text, hk_text, hs_text, hd_text, ha_text, hn, ht, hm_text⟩
  have eK_path : ∀ c ∈ seven, PySem.W.kitOne K (.ref x_path) (.ref ((caOf x_path x_state x_deed x_look x_number x_storm x_text) c)) = some (decide ((.path : XC) = c)) := fun c hc => by
    cases c
    case path => exact ki_path_path
    case state => exact ki_path_state
    case deed => exact ki_path_deed
    case look => exact ki_path_look
    case number => exact ki_path_number
    case storm => exact ki_path_storm
    case text => exact ki_path_text
  have eK_state : ∀ c ∈ seven, PySem.W.kitOne K (.ref x_state) (.ref ((caOf x_path x_state x_deed x_look x_number x_storm x_text) c)) = some (decide ((.state : XC) = c)) := fun c hc => by
    cases c
    case path => exact ki_state_path
    case state => exact ki_state_state
    case deed => exact ki_state_deed
    case look => exact ki_state_look
    case number => exact ki_state_number
    case storm => exact ki_state_storm
    case text => exact ki_state_text
  have eK_deed : ∀ c ∈ seven, PySem.W.kitOne K (.ref x_deed) (.ref ((caOf x_path x_state x_deed x_look x_number x_storm x_text) c)) = some (decide ((.deed : XC) = c)) := fun c hc => by
    cases c
    case path => exact ki_deed_path
    case state => exact ki_deed_state
    case deed => exact ki_deed_deed
    case look => exact ki_deed_look
    case number => exact ki_deed_number
    case storm => exact ki_deed_storm
    case text => exact ki_deed_text
  have eK_look : ∀ c ∈ seven, PySem.W.kitOne K (.ref x_look) (.ref ((caOf x_path x_state x_deed x_look x_number x_storm x_text) c)) = some (decide ((.look : XC) = c)) := fun c hc => by
    cases c
    case path => exact ki_look_path
    case state => exact ki_look_state
    case deed => exact ki_look_deed
    case look => exact ki_look_look
    case number => exact ki_look_number
    case storm => exact ki_look_storm
    case text => exact ki_look_text
  have eK_number : ∀ c ∈ seven, PySem.W.kitOne K (.ref x_number) (.ref ((caOf x_path x_state x_deed x_look x_number x_storm x_text) c)) = some (decide ((.number : XC) = c)) := fun c hc => by
    cases c
    case path => exact ki_number_path
    case state => exact ki_number_state
    case deed => exact ki_number_deed
    case look => exact ki_number_look
    case number => exact ki_number_number
    case storm => exact ki_number_storm
    case text => exact ki_number_text
  have eK_storm : ∀ c ∈ seven, PySem.W.kitOne K (.ref x_storm) (.ref ((caOf x_path x_state x_deed x_look x_number x_storm x_text) c)) = some (decide ((.storm : XC) = c)) := fun c hc => by
    cases c
    case path => exact ki_storm_path
    case state => exact ki_storm_state
    case deed => exact ki_storm_deed
    case look => exact ki_storm_look
    case number => exact ki_storm_number
    case storm => exact ki_storm_storm
    case text => exact ki_storm_text
  have eK_text : ∀ c ∈ seven, PySem.W.kitOne K (.ref x_text) (.ref ((caOf x_path x_state x_deed x_look x_number x_storm x_text) c)) = some (decide ((.text : XC) = c)) := fun c hc => by
    cases c
    case path => exact ki_text_path
    case state => exact ki_text_state
    case deed => exact ki_text_deed
    case look => exact ki_text_look
    case number => exact ki_text_number
    case storm => exact ki_text_storm
    case text => exact ki_text_text
  have eKit : ∀ c ∈ seven, ∀ d ∈ seven, PySem.W.kitOne K (.ref ((caOf x_path x_state x_deed x_look x_number x_storm x_text) c)) (.ref ((caOf x_path x_state x_deed x_look x_number x_storm x_text) d)) = some (decide (c = d)) := fun c hc => by
    cases c
    case path => exact eK_path
    case state => exact eK_state
    case deed => exact eK_deed
    case look => exact eK_look
    case number => exact eK_number
    case storm => exact eK_storm
    case text => exact eK_text
  have eV : ∀ c ∈ seven, PySem.W.kitOne K (.ref ((caOf x_path x_state x_deed x_look x_number x_storm x_text) c)) (.type "ValueError") = some true := fun c hc => by
    cases c
    case path => exact kv_path
    case state => exact kv_state
    case deed => exact kv_deed
    case look => exact kv_look
    case number => exact kv_number
    case storm => exact kv_storm
    case text => exact kv_text
  have eG : ∀ c ∈ seven, mg (nmX c) = some (.ref ((caOf x_path x_state x_deed x_look x_number x_storm x_text) c)) := fun c hc => by
    cases c
    case path => exact mgo g_path
    case state => exact mgo g_state
    case deed => exact mgo g_deed
    case look => exact mgo g_look
    case number => exact mgo g_number
    case storm => exact mgo g_storm
    case text => exact mgo g_text
  have eX : ∀ c ∈ seven, PySem.W.exmOne K (.ref ((caOf x_path x_state x_deed x_look x_number x_storm x_text) c)) (.ref xS) = some true := fun c hc => by
    cases c
    case path => exact ex_path
    case state => exact ex_state
    case deed => exact ex_deed
    case look => exact ex_look
    case number => exact ex_number
    case storm => exact ex_storm
    case text => exact ex_text
  have EA : ExcAll seven (caOf x_path x_state x_deed x_look x_number x_storm x_text) K mg := ⟨eC, eKit, eV, eG, mgn b_ValueError, mgn b_isinstance, mgn b_sum, mgn b_int⟩
  have GL : Gl (caOf x_path x_state x_deed x_look x_number x_storm x_text) K w mg := { g_MOST_WORD := ⟨_, mgo n_MOST_WORD⟩, g_MOST_DEEP := ⟨_, mgo n_MOST_DEEP⟩, g_MOST_WORTH := ⟨_, mgo n_MOST_WORTH⟩, g_MOST_NUMBER := ⟨_, mgo n_MOST_NUMBER⟩, g_MOST_WITHIN := ⟨_, mgo n_MOST_WITHIN⟩, g_MOST_FIGURES := ⟨_, mgo n_MOST_FIGURES⟩, g_SMALL := ⟨_, mgo n_SMALL⟩, g_FIGURES := ⟨_, mgo n_FIGURES⟩, s_READING := ⟨⟨_, _, _, _, mgo sg_READING, sl_READING', rfl, rfl, (by show 4 ≤ sizeLine; decide), .cons ⟨_, rfl⟩ (.cons ⟨_, rfl⟩ (.cons ⟨_, rfl⟩ (.cons ⟨_, rfl⟩ (.nil))))⟩⟩, s_TWO := ⟨⟨_, _, _, _, mgo sg_TWO, sl_TWO', rfl, rfl, (by show 5 ≤ sizeLine; decide), .cons ⟨_, rfl⟩ (.cons ⟨_, rfl⟩ (.cons ⟨_, rfl⟩ (.cons ⟨_, rfl⟩ (.cons ⟨_, rfl⟩ (.nil)))))⟩⟩, r_BadState := ⟨⟨_, _, _, _, PySem.F.excBase_ValueError, q_state⟩, mgo g_state, kp_state, hs_state, ty_state⟩, r_BadLook := ⟨⟨_, _, _, _, PySem.F.excBase_ValueError, q_look⟩, mgo g_look, kp_look, hs_look, ty_look⟩, r_BadText := ⟨⟨_, _, _, _, PySem.F.excBase_ValueError, q_text⟩, mgo g_text, kp_text, hs_text, ty_text⟩, b_isinstance := mgn b_isinstance, b_str := mgn b_str, b_tuple := mgn b_tuple, b_dict := mgn b_dict, b_int := mgn b_int, b_bool := mgn b_bool, b_len := mgn b_len, b_abs := mgn b_abs, b_all := mgn b_all, b_any := mgn b_any, b_sum := mgn b_sum, b_max := mgn b_max, b_min := mgn b_min, b_range := mgn b_range, b_sorted := mgn b_sorted, b_list := mgn b_list, x_look := kx_look }
  have U0 : FunAs K mg "is_word" "is_word" s_is_word ["thing"] := fun_at X G a0 l0 c0 k0 fun _ _ _ _ _ _ us hl => match us, hl with | [_], _ => rfl
  have U1 : FunAs K mg "is_path" "is_path" s_is_path ["thing"] := fun_at X G a1 l1 c1 k1 fun _ _ _ _ _ _ us hl => match us, hl with | [_], _ => rfl
  have U2 : FunAs K mg "is_number" "is_number" s_is_number ["thing", "most"] := fun_at X G a2 l2 c2 k2 fun _ _ _ _ _ _ us hl => match us, hl with | [_, _], _ => rfl
  have U3 : FunAs K mg "is_state" "is_state" s_is_state ["state"] := fun_at X G a3 l3 c3 k3 fun _ _ _ _ _ _ us hl => match us, hl with | [_], _ => rfl
  have U4 : FunAs K mg "need_state" "need_state" s_need_state ["state"] := fun_at X G a4 l4 c4 k4 fun _ _ _ _ _ _ us hl => match us, hl with | [_], _ => rfl
  have U5 : FunAs K mg "need" "need" s_need ["good"] := fun_at X G a5 l5 c5 k5 fun _ _ _ _ _ _ us hl => match us, hl with | [_], _ => rfl
  have U6 : FunAs K mg "need_deep" "need_deep" s_need_deep ["term", "deep"] := fun_at X G a6 l6 c6 k6 fun _ _ _ _ _ _ us hl => match us, hl with | [_, _], _ => rfl
  have U7 : FunAs K mg "need_term" "need_term" s_need_term ["term"] := fun_at X G a7 l7 c7 k7 fun _ _ _ _ _ _ us hl => match us, hl with | [_], _ => rfl
  have U8 : FunAs K mg "need_text" "need_text" s_need_text ["good"] := fun_at X G a8 l8 c8 k8 fun _ _ _ _ _ _ us hl => match us, hl with | [_], _ => rfl
  have U9 : FunAs K mg "path_text" "path_text" s_path_text ["path"] := fun_at X G a9 l9 c9 k9 fun _ _ _ _ _ _ us hl => match us, hl with | [_], _ => rfl
  have U10 : FunAs K mg "path_in" "path_in" s_path_in ["word"] := fun_at X G a10 l10 c10 k10 fun _ _ _ _ _ _ us hl => match us, hl with | [_], _ => rfl
  have U11 : FunAs K mg "number_in" "number_in" s_number_in ["word"] := fun_at X G a11 l11 c11 k11 fun _ _ _ _ _ _ us hl => match us, hl with | [_], _ => rfl
  have U12 : FunAs K mg "state_text" "state_text" s_state_text ["state"] := fun_at X G a12 l12 c12 k12 fun _ _ _ _ _ _ us hl => match us, hl with | [_], _ => rfl
  have U13 : FunAs K mg "state_in" "state_in" s_state_in ["text"] := fun_at X G a13 l13 c13 k13 fun _ _ _ _ _ _ us hl => match us, hl with | [_], _ => rfl
  have U14 : FunAs K mg "text_of" "text_of" s_text_of ["term"] := fun_at X G a14 l14 c14 k14 fun _ _ _ _ _ _ us hl => match us, hl with | [_], _ => rfl
  have U15 : FunAs K mg "term_text" "term_text" s_term_text ["term"] := fun_at X G a15 l15 c15 k15 fun _ _ _ _ _ _ us hl => match us, hl with | [_], _ => rfl
  have U16 : FunAs K mg "term_in" "term_in" s_term_in ["text"] := fun_at X G a16 l16 c16 k16 fun _ _ _ _ _ _ us hl => match us, hl with | [_], _ => rfl
  have U17 : FunAs K mg "_law_cell" "_law_cell" s_law_cell ["_law_script", "_law_k"] := fun_at X G a17 l17 c17 k17 fun _ _ _ _ _ _ us hl => match us, hl with | [_, _], _ => rfl
  have U18 : FunAs K mg "_law_drawn" "_law_drawn" s_law_drawn ["_law_cell_here", "_law_k"] := fun_at X G a18 l18 c18 k18 fun _ _ _ _ _ _ us hl => match us, hl with | [_, _], _ => rfl
  have U19 : FunAs K mg "_law_path" "_law_path" s_law_path ["_law_more", "_law_deep"] := fun_at X G a19 l19 c19 k19 fun _ _ _ _ _ _ us hl => match us, hl with | [_, _], _ => rfl
  have U20 : FunAs K mg "_law_state" "_law_state" s_law_state ["_law_more", "_law_many"] := fun_at X G a20 l20 c20 k20 fun _ _ _ _ _ _ us hl => match us, hl with | [_, _], _ => rfl
  have U21 : FunAs K mg "_law_is_state" "_law_is_state" s_law_is_state ["_law_state_here"] := fun_at X G a21 l21 c21 k21 fun _ _ _ _ _ _ us hl => match us, hl with | [_], _ => rfl
  have U22 : FunAs K mg "_law_term" "_law_term" s_law_term ["_law_more", "_law_deep", "_law_names"] := fun_at X G a22 l22 c22 k22 fun _ _ _ _ _ _ us hl => match us, hl with | [_, _, _], _ => rfl
  have U23 : FunAs K mg "_law_path_text" "_law_path_text" s_law_path_text ["_law_path_here"] := fun_at X G a23 l23 c23 k23 fun _ _ _ _ _ _ us hl => match us, hl with | [_], _ => rfl
  have U24 : FunAs K mg "_law_state_text" "_law_state_text" s_law_state_text ["_law_state_here"] := fun_at X G a24 l24 c24 k24 fun _ _ _ _ _ _ us hl => match us, hl with | [_], _ => rfl
  have U25 : FunAs K mg "_law_term_text" "_law_term_text" s_law_term_text ["_law_term_here"] := fun_at X G a25 l25 c25 k25 fun _ _ _ _ _ _ us hl => match us, hl with | [_], _ => rfl
  have U26 : FunAs K mg "_law_word" "_law_word" s_word ["_law_e"] := fun_at X G a26 l26 c26 k26 fun _ _ _ _ _ _ us hl => match us, hl with | [_], _ => rfl
  have U27 : FunAs K mg "_law_told" "_law_told" s_told ["_law_deed"] := fun_at X G a27 l27 c27 k27 fun _ _ _ _ _ _ us hl => match us, hl with | [_], _ => rfl
  have V0 := mt_at (ps := ["self", "text"]) ma0 ml0 mc0 mk0 mf0 fun _ _ _ _ _ _ us hl => match us, hl with | [_, _], _ => rfl
  have V1 := mt_at (ps := ["self"]) ma1 ml1 mc1 mk1 mf1 fun _ _ _ _ _ _ us hl => match us, hl with | [_], _ => rfl
  have V2 := mt_at (ps := ["self", "due"]) ma2 ml2 mc2 mk2 mf2 fun _ _ _ _ _ _ us hl => match us, hl with | [_, _], _ => rfl
  have V3 := mt_at (ps := ["self", "deep"]) ma3 ml3 mc3 mk3 mf3 fun _ _ _ _ _ _ us hl => match us, hl with | [_, _], _ => rfl
  have V4 := mt_at (ps := ["self", "deep"]) ma4 ml4 mc4 mk4 mf4 fun _ _ _ _ _ _ us hl => match us, hl with | [_, _], _ => rfl
  have KR : Cls K CR := ⟨CR_pg, CR_hd, CR_po, CR_sa⟩
  have RC : RdC K CR := ⟨KR, CR_n_words, CR_n_spot⟩
  have MI : Mk K CR m0 := ⟨CR_mk, ma0, mf0, CR_kp⟩
  let T : Gam := ⟨[(PL, "law.<locals>.<lambda>")], fun _ => True, fun _ _ _ _ => trivial⟩
  have BL : ∀ (s : Shared) (u : Value), BindsTo s (PySem.W.fnOf "law" "law" (defArgs s_law) (defBody s_law) (defScope s_law) .none kVL dcL pmL anL (.ref cdL) ctL) ⟨[u], []⟩ [("_law_script", u)] := fun s u => .of_eq rfl
  refine ⟨_, [(cdL, PL)], SpD T (caOf x_path x_state x_deed x_look x_number x_storm x_text) K 1 g_law, fun p hp => ?_, fun p hp => ?_, fun p hp => ?_, BL, fun H a ns hl _ ht hs => ?_, fun base XB GB TBs => ?_⟩
  · simp only [List.mem_cons, List.not_mem_nil, or_false] at hp
    rcases hp with rfl
    · exact tbPL
  · simp only [List.mem_cons, List.not_mem_nil, or_false] at hp
    rcases hp with rfl
    · exact nL
  · simp only [List.mem_cons, List.not_mem_nil, or_false] at hp
    rcases hp with rfl
    · exact PySem.W.codeHd_of_K X hL
  · refine ⟨rfl, [], [.list (ns.map PyData.int)], ⟨fun a ha => absurd ha (by simp), ⟨fun p hp => ?_, trivial⟩⟩, ?_, ?_⟩
    · have hp : p ∈ [(PL, ("law.<locals>.<lambda>" : Str))] := hp
      simp only [List.mem_cons, List.not_mem_nil, or_false] at hp
      rcases hp with rfl
      · exact LamX.TabS.nil (ht (cdL, PL) (by simp))
    · rw [hide_nil]
      exact .cons (.lst hs (ints_all ns)) .nil
    · rw [law_true ns hl]
      exact fun v H' _ r => rp_bl r
  · have B := TBs (cdL, PL) (by simp)
    have F_is_word := ok_is_word (T := T) (P := PySem.Challenge.rw_lookhouse_k70_whole_written.prog) (base := base) GL U0 
    have F_is_path := ok_is_path (T := T) (P := PySem.Challenge.rw_lookhouse_k70_whole_written.prog) (base := base) GL U1 F_is_word
    have F_is_number := ok_is_number (T := T) (P := PySem.Challenge.rw_lookhouse_k70_whole_written.prog) (base := base) GL U2 
    have F_is_state := ok_is_state (T := T) (P := PySem.Challenge.rw_lookhouse_k70_whole_written.prog) (base := base) GL U3 F_is_path F_is_number
    have F_need_state := ok_need_state (T := T) (P := PySem.Challenge.rw_lookhouse_k70_whole_written.prog) (base := base) GL U4 F_is_state
    have F_need := ok_need (T := T) (P := PySem.Challenge.rw_lookhouse_k70_whole_written.prog) (base := base) GL U5 
    have F_need_deep := ok_need_deep (T := T) (P := PySem.Challenge.rw_lookhouse_k70_whole_written.prog) (base := base) GL U6 F_need F_is_number F_is_path F_is_word 12
    have F_need_term := ok_need_term (T := T) (P := PySem.Challenge.rw_lookhouse_k70_whole_written.prog) (base := base) GL U7 F_need_deep
    have F_need_text := ok_need_text (T := T) (P := PySem.Challenge.rw_lookhouse_k70_whole_written.prog) (base := base) GL U8 
    have F_path_text := ok_path_text (T := T) (P := PySem.Challenge.rw_lookhouse_k70_whole_written.prog) (base := base) GL U9 
    have F_path_in := ok_path_in (T := T) (P := PySem.Challenge.rw_lookhouse_k70_whole_written.prog) (base := base) GL U10 
    have F_number_in := ok_number_in (T := T) (P := PySem.Challenge.rw_lookhouse_k70_whole_written.prog) (base := base) GL U11 F_need_text
    have F_state_text := ok_state_text (T := T) (P := PySem.Challenge.rw_lookhouse_k70_whole_written.prog) (base := base) GL U12 F_need_state F_path_text
    have F_state_in := ok_state_in (T := T) (P := PySem.Challenge.rw_lookhouse_k70_whole_written.prog) (base := base) GL U13 F_need_text F_path_in F_number_in F_is_state F_state_text
    have F_text_of := ok_text_of (T := T) (P := PySem.Challenge.rw_lookhouse_k70_whole_written.prog) (base := base) GL U14 F_path_text 12
    have F_term_text := ok_term_text (T := T) (P := PySem.Challenge.rw_lookhouse_k70_whole_written.prog) (base := base) GL U15 F_need_term F_text_of
    have F_law_cell := ok_law_cell (T := T) (P := PySem.Challenge.rw_lookhouse_k70_whole_written.prog) (base := base) GL U17 
    have F_law_drawn := ok_law_drawn (T := T) (P := PySem.Challenge.rw_lookhouse_k70_whole_written.prog) (base := base) GL U18 
    have F_law_path := ok_law_path (T := T) (P := PySem.Challenge.rw_lookhouse_k70_whole_written.prog) (base := base) GL U19 F_law_drawn
    have F_law_state := ok_law_state (T := T) (P := PySem.Challenge.rw_lookhouse_k70_whole_written.prog) (base := base) GL U20 F_law_drawn F_law_path
    have F_law_is_state := ok_law_is_state (T := T) (P := PySem.Challenge.rw_lookhouse_k70_whole_written.prog) (base := base) GL U21 
    have F_law_term := ok_law_term (T := T) (P := PySem.Challenge.rw_lookhouse_k70_whole_written.prog) (base := base) GL U22 F_law_drawn F_law_path 6
    have F_law_path_text := ok_law_path_text (T := T) (P := PySem.Challenge.rw_lookhouse_k70_whole_written.prog) (base := base) GL U23 
    have F_law_state_text := ok_law_state_text (T := T) (P := PySem.Challenge.rw_lookhouse_k70_whole_written.prog) (base := base) GL U24 F_law_path_text
    have F_law_term_text := ok_law_term_text (T := T) (P := PySem.Challenge.rw_lookhouse_k70_whole_written.prog) (base := base) GL U25 F_law_path_text 12
    have Fi := ok_rinit (P := PySem.Challenge.rw_lookhouse_k70_whole_written.prog) (w := w) (mg := mg) (base := base) RC V0.1
    have Fn := ok_rnext (T := T) (P := PySem.Challenge.rw_lookhouse_k70_whole_written.prog) (base := base) GL RC ⟨⟨_, _, V1.1, V1.2.1, V1.2.2⟩⟩ F_need_text
    have Ft := ok_rtake (T := T) (P := PySem.Challenge.rw_lookhouse_k70_whole_written.prog) (mg := mg) (base := base) RC ⟨⟨_, _, V2.1, V2.2.1, V2.2.2⟩⟩ F_need_text Fn
    have FT := ok_rterm (T := T) (P := PySem.Challenge.rw_lookhouse_k70_whole_written.prog) (base := base) GL RC ⟨⟨_, _, V3.1, V3.2.1, V3.2.2⟩⟩ ⟨⟨_, _, V4.1, V4.2.1, V4.2.2⟩⟩ F_need_text F_path_in F_number_in Fn Ft 9
    have F_term_in := ok_term_in (T := T) (P := PySem.Challenge.rw_lookhouse_k70_whole_written.prog) (base := base) GL U16 RC (mgo CR_g) MI Fi V0.2.2 FT F_need_text F_need_term F_text_of
    have DT : ToldG seven T (caOf x_path x_state x_deed x_look x_number x_storm x_text) nmX PySem.Challenge.rw_lookhouse_k70_whole_written.prog w K mg base 1 "_law_told" "LookError" "_law_word" s_told n_told "_law_deed" "_law_e" :=
      ⟨U27.ex, sc_told, rfl, .inl rfl, rfl, rfl, rfl, ⟨_, _, _, _, _, _, _, _, _, _, rfl⟩, by decide, by decide, ⟨_, mgo gS, eX⟩, by
        obtain ⟨g, fd, FW, hmW, hbW⟩ := U26.ex
        exact ⟨g, fd, ["_law_e"], ok_word FW EA, rfl, hmW, FW.kp, hbW⟩⟩
    refine ok_law GL lL cL DT B (by simp [T]) (fun p hp h => ?_)  F_law_cell F_law_drawn F_law_state F_law_term F_law_state_text F_law_term_text F_state_text F_state_in F_term_text F_term_in F_law_is_state
    simp only [T, List.mem_cons, List.not_mem_nil, or_false] at hp
    rcases hp with rfl
    · rfl
end K70
open PySem PySem.W PyProof.Rows
set_option maxRecDepth 100000 in
set_option maxHeartbeats 40000000 in
theorem PySem.Challenge.cw_lookhouse_k70_whole_written_holds : PySem.Challenge.rw_lookhouse_k70_whole_written.Holds := by
  w_on; o_law; k_head; (case hw => w_witness2)
  k_fill
  refine LamX.walk_ofTs (l := PySem.Challenge.rw_lookhouse_k70_whole_written) (n := 63) (k := 25) (CX := fun w => L2N.CX PySem.Challenge.rw_lookhouse_k70_whole_written.prog w) (x := "_law_script") rfl (by decide) rfl ⟨rfl, by decide, by decide⟩ (fun w h Y => PySem.W.km_in_of Y) ?F ?S
  case S =>
    intro w H s e s' z
    obtain ⟨_, _, _, _, _, _, _, _, _, _, _, _, q⟩ := z
    exact q
  case F =>
    intro w mg fa h Y KX G hmg
    have hT := PySem.W.km_tabs_of Y
    refine' K70.all_mk (w := w) KX G hmg ?a0 ?l0 ?c0 ?k0 ?a1 ?l1 ?c1 ?k1 ?a2 ?l2 ?c2 ?k2 ?a3 ?l3 ?c3 ?k3 ?a4 ?l4 ?c4 ?k4 ?a5 ?l5 ?c5 ?k5 ?a6 ?l6 ?c6 ?k6 ?a7 ?l7 ?c7 ?k7 ?a8 ?l8 ?c8 ?k8 ?a9 ?l9 ?c9 ?k9 ?a10 ?l10 ?c10 ?k10 ?a11 ?l11 ?c11 ?k11 ?a12 ?l12 ?c12 ?k12 ?a13 ?l13 ?c13 ?k13 ?a14 ?l14 ?c14 ?k14 ?a15 ?l15 ?c15 ?k15 ?a16 ?l16 ?c16 ?k16 ?a17 ?l17 ?c17 ?k17 ?a18 ?l18 ?c18 ?k18 ?a19 ?l19 ?c19 ?k19 ?a20 ?l20 ?c20 ?k20 ?a21 ?l21 ?c21 ?k21 ?a22 ?l22 ?c22 ?k22 ?a23 ?l23 ?c23 ?k23 ?a24 ?l24 ?c24 ?k24 ?a25 ?l25 ?c25 ?k25 ?a26 ?l26 ?c26 ?k26 ?a27 ?l27 ?c27 ?k27 ?CR_g ?CR_pg ?CR_hd ?CR_po ?CR_sa ?CR_n_words ?CR_n_spot ?CR_mk ?CR_kp ?ma0 ?ml0 ?mc0 ?mk0 ?mf0 ?ma1 ?ml1 ?mc1 ?mk1 ?mf1 ?ma2 ?ml2 ?mc2 ?mk2 ?mf2 ?ma3 ?ml3 ?mc3 ?mk3 ?mf3 ?ma4 ?ml4 ?mc4 ?mk4 ?mf4 ?aL ?lL ?cL ?oL ?eL ?hL ?nL ?gS ?g_path ?hg_path ?hk_path ?hs_path ?hd_path ?ha_path ?hm_path ?kv_path ?ex_path ?ki_path_path ?ki_path_state ?ki_path_deed ?ki_path_look ?ki_path_number ?ki_path_storm ?ki_path_text ?g_state ?q_state ?kp_state ?ty_state ?hg_state ?hk_state ?hs_state ?hd_state ?ha_state ?hm_state ?kv_state ?ex_state ?ki_state_path ?ki_state_state ?ki_state_deed ?ki_state_look ?ki_state_number ?ki_state_storm ?ki_state_text ?g_deed ?hg_deed ?hk_deed ?hs_deed ?hd_deed ?ha_deed ?hm_deed ?kv_deed ?ex_deed ?ki_deed_path ?ki_deed_state ?ki_deed_deed ?ki_deed_look ?ki_deed_number ?ki_deed_storm ?ki_deed_text ?g_look ?q_look ?kp_look ?ty_look ?hg_look ?hk_look ?hs_look ?hd_look ?ha_look ?hm_look ?kv_look ?ex_look ?ki_look_path ?ki_look_state ?ki_look_deed ?ki_look_look ?ki_look_number ?ki_look_storm ?ki_look_text ?g_number ?hg_number ?hk_number ?hs_number ?hd_number ?ha_number ?hm_number ?kv_number ?ex_number ?ki_number_path ?ki_number_state ?ki_number_deed ?ki_number_look ?ki_number_number ?ki_number_storm ?ki_number_text ?g_storm ?hg_storm ?hk_storm ?hs_storm ?hd_storm ?ha_storm ?hm_storm ?kv_storm ?ex_storm ?ki_storm_path ?ki_storm_state ?ki_storm_deed ?ki_storm_look ?ki_storm_number ?ki_storm_storm ?ki_storm_text ?g_text ?q_text ?kp_text ?ty_text ?hg_text ?hk_text ?hs_text ?hd_text ?ha_text ?hm_text ?kv_text ?ex_text ?ki_text_path ?ki_text_state ?ki_text_deed ?ki_text_look ?ki_text_number ?ki_text_storm ?ki_text_text ?hn ?ht ?n_MOST_WORD ?n_MOST_DEEP ?n_MOST_WORTH ?n_MOST_NUMBER ?n_MOST_WITHIN ?n_MOST_FIGURES ?n_SMALL ?n_FIGURES ?b_isinstance ?b_str ?b_tuple ?b_dict ?b_int ?b_bool ?b_len ?b_abs ?b_all ?b_any ?b_sum ?b_max ?b_min ?b_range ?b_sorted ?b_list ?b_ValueError ?kx_look ?sg_READING ?sl_READING' ?sg_TWO ?sl_TWO' ?tbPL
    (case a0 => first | k_is | rfl | kernel_rfl)
    (case l0 => first | k_is | rfl | kernel_rfl)
    (case c0 => first | k_is | rfl | kernel_rfl)
    (case k0 => first | k_is | rfl | kernel_rfl)
    (case a1 => first | k_is | rfl | kernel_rfl)
    (case l1 => first | k_is | rfl | kernel_rfl)
    (case c1 => first | k_is | rfl | kernel_rfl)
    (case k1 => first | k_is | rfl | kernel_rfl)
    (case a2 => first | k_is | rfl | kernel_rfl)
    (case l2 => first | k_is | rfl | kernel_rfl)
    (case c2 => first | k_is | rfl | kernel_rfl)
    (case k2 => first | k_is | rfl | kernel_rfl)
    (case a3 => first | k_is | rfl | kernel_rfl)
    (case l3 => first | k_is | rfl | kernel_rfl)
    (case c3 => first | k_is | rfl | kernel_rfl)
    (case k3 => first | k_is | rfl | kernel_rfl)
    (case a4 => first | k_is | rfl | kernel_rfl)
    (case l4 => first | k_is | rfl | kernel_rfl)
    (case c4 => first | k_is | rfl | kernel_rfl)
    (case k4 => first | k_is | rfl | kernel_rfl)
    (case a5 => first | k_is | rfl | kernel_rfl)
    (case l5 => first | k_is | rfl | kernel_rfl)
    (case c5 => first | k_is | rfl | kernel_rfl)
    (case k5 => first | k_is | rfl | kernel_rfl)
    (case a6 => first | k_is | rfl | kernel_rfl)
    (case l6 => first | k_is | rfl | kernel_rfl)
    (case c6 => first | k_is | rfl | kernel_rfl)
    (case k6 => first | k_is | rfl | kernel_rfl)
    (case a7 => first | k_is | rfl | kernel_rfl)
    (case l7 => first | k_is | rfl | kernel_rfl)
    (case c7 => first | k_is | rfl | kernel_rfl)
    (case k7 => first | k_is | rfl | kernel_rfl)
    (case a8 => first | k_is | rfl | kernel_rfl)
    (case l8 => first | k_is | rfl | kernel_rfl)
    (case c8 => first | k_is | rfl | kernel_rfl)
    (case k8 => first | k_is | rfl | kernel_rfl)
    (case a9 => first | k_is | rfl | kernel_rfl)
    (case l9 => first | k_is | rfl | kernel_rfl)
    (case c9 => first | k_is | rfl | kernel_rfl)
    (case k9 => first | k_is | rfl | kernel_rfl)
    (case a10 => first | k_is | rfl | kernel_rfl)
    (case l10 => first | k_is | rfl | kernel_rfl)
    (case c10 => first | k_is | rfl | kernel_rfl)
    (case k10 => first | k_is | rfl | kernel_rfl)
    (case a11 => first | k_is | rfl | kernel_rfl)
    (case l11 => first | k_is | rfl | kernel_rfl)
    (case c11 => first | k_is | rfl | kernel_rfl)
    (case k11 => first | k_is | rfl | kernel_rfl)
    (case a12 => first | k_is | rfl | kernel_rfl)
    (case l12 => first | k_is | rfl | kernel_rfl)
    (case c12 => first | k_is | rfl | kernel_rfl)
    (case k12 => first | k_is | rfl | kernel_rfl)
    (case a13 => first | k_is | rfl | kernel_rfl)
    (case l13 => first | k_is | rfl | kernel_rfl)
    (case c13 => first | k_is | rfl | kernel_rfl)
    (case k13 => first | k_is | rfl | kernel_rfl)
    (case a14 => first | k_is | rfl | kernel_rfl)
    (case l14 => first | k_is | rfl | kernel_rfl)
    (case c14 => first | k_is | rfl | kernel_rfl)
    (case k14 => first | k_is | rfl | kernel_rfl)
    (case a15 => first | k_is | rfl | kernel_rfl)
    (case l15 => first | k_is | rfl | kernel_rfl)
    (case c15 => first | k_is | rfl | kernel_rfl)
    (case k15 => first | k_is | rfl | kernel_rfl)
    (case a16 => first | k_is | rfl | kernel_rfl)
    (case l16 => first | k_is | rfl | kernel_rfl)
    (case c16 => first | k_is | rfl | kernel_rfl)
    (case k16 => first | k_is | rfl | kernel_rfl)
    (case a17 => first | k_is | rfl | kernel_rfl)
    (case l17 => first | k_is | rfl | kernel_rfl)
    (case c17 => first | k_is | rfl | kernel_rfl)
    (case k17 => first | k_is | rfl | kernel_rfl)
    (case a18 => first | k_is | rfl | kernel_rfl)
    (case l18 => first | k_is | rfl | kernel_rfl)
    (case c18 => first | k_is | rfl | kernel_rfl)
    (case k18 => first | k_is | rfl | kernel_rfl)
    (case a19 => first | k_is | rfl | kernel_rfl)
    (case l19 => first | k_is | rfl | kernel_rfl)
    (case c19 => first | k_is | rfl | kernel_rfl)
    (case k19 => first | k_is | rfl | kernel_rfl)
    (case a20 => first | k_is | rfl | kernel_rfl)
    (case l20 => first | k_is | rfl | kernel_rfl)
    (case c20 => first | k_is | rfl | kernel_rfl)
    (case k20 => first | k_is | rfl | kernel_rfl)
    (case a21 => first | k_is | rfl | kernel_rfl)
    (case l21 => first | k_is | rfl | kernel_rfl)
    (case c21 => first | k_is | rfl | kernel_rfl)
    (case k21 => first | k_is | rfl | kernel_rfl)
    (case a22 => first | k_is | rfl | kernel_rfl)
    (case l22 => first | k_is | rfl | kernel_rfl)
    (case c22 => first | k_is | rfl | kernel_rfl)
    (case k22 => first | k_is | rfl | kernel_rfl)
    (case a23 => first | k_is | rfl | kernel_rfl)
    (case l23 => first | k_is | rfl | kernel_rfl)
    (case c23 => first | k_is | rfl | kernel_rfl)
    (case k23 => first | k_is | rfl | kernel_rfl)
    (case a24 => first | k_is | rfl | kernel_rfl)
    (case l24 => first | k_is | rfl | kernel_rfl)
    (case c24 => first | k_is | rfl | kernel_rfl)
    (case k24 => first | k_is | rfl | kernel_rfl)
    (case a25 => first | k_is | rfl | kernel_rfl)
    (case l25 => first | k_is | rfl | kernel_rfl)
    (case c25 => first | k_is | rfl | kernel_rfl)
    (case k25 => first | k_is | rfl | kernel_rfl)
    (case a26 => first | k_is | rfl | kernel_rfl)
    (case l26 => first | k_is | rfl | kernel_rfl)
    (case c26 => first | k_is | rfl | kernel_rfl)
    (case k26 => first | k_is | rfl | kernel_rfl)
    (case a27 => first | k_is | rfl | kernel_rfl)
    (case l27 => first | k_is | rfl | kernel_rfl)
    (case c27 => first | k_is | rfl | kernel_rfl)
    (case k27 => first | k_is | rfl | kernel_rfl)
    (case CR_g => first | k_is | rfl | kernel_rfl)
    (case CR_pg => first | k_is | rfl | kernel_rfl)
    (case CR_hd => first | k_is | rfl | kernel_rfl)
    (case CR_po => first | k_is | rfl | kernel_rfl)
    (case CR_sa => first | k_is | rfl | kernel_rfl)
    (case CR_n_words => first | k_is | rfl | kernel_rfl)
    (case CR_n_spot => first | k_is | rfl | kernel_rfl)
    (case CR_mk => first | k_is | rfl | kernel_rfl)
    (case CR_kp => first | k_is | rfl | kernel_rfl)
    (case ma0 => first | k_is | rfl | kernel_rfl)
    (case ml0 => first | k_is | rfl | kernel_rfl)
    (case mc0 => first | k_is | rfl | kernel_rfl)
    (case mk0 => first | k_is | rfl | kernel_rfl)
    (case mf0 => first | k_is | rfl | kernel_rfl)
    (case ma1 => first | k_is | rfl | kernel_rfl)
    (case ml1 => first | k_is | rfl | kernel_rfl)
    (case mc1 => first | k_is | rfl | kernel_rfl)
    (case mk1 => first | k_is | rfl | kernel_rfl)
    (case mf1 => first | k_is | rfl | kernel_rfl)
    (case ma2 => first | k_is | rfl | kernel_rfl)
    (case ml2 => first | k_is | rfl | kernel_rfl)
    (case mc2 => first | k_is | rfl | kernel_rfl)
    (case mk2 => first | k_is | rfl | kernel_rfl)
    (case mf2 => first | k_is | rfl | kernel_rfl)
    (case ma3 => first | k_is | rfl | kernel_rfl)
    (case ml3 => first | k_is | rfl | kernel_rfl)
    (case mc3 => first | k_is | rfl | kernel_rfl)
    (case mk3 => first | k_is | rfl | kernel_rfl)
    (case mf3 => first | k_is | rfl | kernel_rfl)
    (case ma4 => first | k_is | rfl | kernel_rfl)
    (case ml4 => first | k_is | rfl | kernel_rfl)
    (case mc4 => first | k_is | rfl | kernel_rfl)
    (case mk4 => first | k_is | rfl | kernel_rfl)
    (case mf4 => first | k_is | rfl | kernel_rfl)
    (case aL => first | k_is | rfl | kernel_rfl)
    (case lL => first | k_is | rfl | kernel_rfl)
    (case cL => first | k_is | rfl | kernel_rfl)
    (case oL => first | k_is | rfl | kernel_rfl)
    (case eL => first | k_is | rfl | kernel_rfl)
    (case hL => first | k_is | rfl | kernel_rfl)
    (case nL => first | k_is | rfl | kernel_rfl)
    (case gS => first | k_is | rfl | kernel_rfl)
    (case g_path => first | k_is | rfl | kernel_rfl)
    (case hg_path => first | k_is | rfl | kernel_rfl)
    (case hk_path => first | k_is | rfl | kernel_rfl)
    (case hs_path => first | k_is | rfl | kernel_rfl)
    (case hd_path => first | k_is | rfl | kernel_rfl)
    (case ha_path => first | k_is | rfl | kernel_rfl)
    (case hm_path => first | k_is | rfl | kernel_rfl)
    (case kv_path => first | k_is | rfl | kernel_rfl)
    (case ex_path => first | k_is | rfl | kernel_rfl)
    (case ki_path_path => first | k_is | rfl | kernel_rfl)
    (case ki_path_state => first | k_is | rfl | kernel_rfl)
    (case ki_path_deed => first | k_is | rfl | kernel_rfl)
    (case ki_path_look => first | k_is | rfl | kernel_rfl)
    (case ki_path_number => first | k_is | rfl | kernel_rfl)
    (case ki_path_storm => first | k_is | rfl | kernel_rfl)
    (case ki_path_text => first | k_is | rfl | kernel_rfl)
    (case g_state => first | k_is | rfl | kernel_rfl)
    (case q_state => first | k_is | rfl | kernel_rfl)
    (case kp_state => first | k_is | rfl | kernel_rfl)
    (case ty_state => first | k_is | rfl | kernel_rfl)
    (case hg_state => first | k_is | rfl | kernel_rfl)
    (case hk_state => first | k_is | rfl | kernel_rfl)
    (case hs_state => first | k_is | rfl | kernel_rfl)
    (case hd_state => first | k_is | rfl | kernel_rfl)
    (case ha_state => first | k_is | rfl | kernel_rfl)
    (case hm_state => first | k_is | rfl | kernel_rfl)
    (case kv_state => first | k_is | rfl | kernel_rfl)
    (case ex_state => first | k_is | rfl | kernel_rfl)
    (case ki_state_path => first | k_is | rfl | kernel_rfl)
    (case ki_state_state => first | k_is | rfl | kernel_rfl)
    (case ki_state_deed => first | k_is | rfl | kernel_rfl)
    (case ki_state_look => first | k_is | rfl | kernel_rfl)
    (case ki_state_number => first | k_is | rfl | kernel_rfl)
    (case ki_state_storm => first | k_is | rfl | kernel_rfl)
    (case ki_state_text => first | k_is | rfl | kernel_rfl)
    (case g_deed => first | k_is | rfl | kernel_rfl)
    (case hg_deed => first | k_is | rfl | kernel_rfl)
    (case hk_deed => first | k_is | rfl | kernel_rfl)
    (case hs_deed => first | k_is | rfl | kernel_rfl)
    (case hd_deed => first | k_is | rfl | kernel_rfl)
    (case ha_deed => first | k_is | rfl | kernel_rfl)
    (case hm_deed => first | k_is | rfl | kernel_rfl)
    (case kv_deed => first | k_is | rfl | kernel_rfl)
    (case ex_deed => first | k_is | rfl | kernel_rfl)
    (case ki_deed_path => first | k_is | rfl | kernel_rfl)
    (case ki_deed_state => first | k_is | rfl | kernel_rfl)
    (case ki_deed_deed => first | k_is | rfl | kernel_rfl)
    (case ki_deed_look => first | k_is | rfl | kernel_rfl)
    (case ki_deed_number => first | k_is | rfl | kernel_rfl)
    (case ki_deed_storm => first | k_is | rfl | kernel_rfl)
    (case ki_deed_text => first | k_is | rfl | kernel_rfl)
    (case g_look => first | k_is | rfl | kernel_rfl)
    (case q_look => first | k_is | rfl | kernel_rfl)
    (case kp_look => first | k_is | rfl | kernel_rfl)
    (case ty_look => first | k_is | rfl | kernel_rfl)
    (case hg_look => first | k_is | rfl | kernel_rfl)
    (case hk_look => first | k_is | rfl | kernel_rfl)
    (case hs_look => first | k_is | rfl | kernel_rfl)
    (case hd_look => first | k_is | rfl | kernel_rfl)
    (case ha_look => first | k_is | rfl | kernel_rfl)
    (case hm_look => first | k_is | rfl | kernel_rfl)
    (case kv_look => first | k_is | rfl | kernel_rfl)
    (case ex_look => first | k_is | rfl | kernel_rfl)
    (case ki_look_path => first | k_is | rfl | kernel_rfl)
    (case ki_look_state => first | k_is | rfl | kernel_rfl)
    (case ki_look_deed => first | k_is | rfl | kernel_rfl)
    (case ki_look_look => first | k_is | rfl | kernel_rfl)
    (case ki_look_number => first | k_is | rfl | kernel_rfl)
    (case ki_look_storm => first | k_is | rfl | kernel_rfl)
    (case ki_look_text => first | k_is | rfl | kernel_rfl)
    (case g_number => first | k_is | rfl | kernel_rfl)
    (case hg_number => first | k_is | rfl | kernel_rfl)
    (case hk_number => first | k_is | rfl | kernel_rfl)
    (case hs_number => first | k_is | rfl | kernel_rfl)
    (case hd_number => first | k_is | rfl | kernel_rfl)
    (case ha_number => first | k_is | rfl | kernel_rfl)
    (case hm_number => first | k_is | rfl | kernel_rfl)
    (case kv_number => first | k_is | rfl | kernel_rfl)
    (case ex_number => first | k_is | rfl | kernel_rfl)
    (case ki_number_path => first | k_is | rfl | kernel_rfl)
    (case ki_number_state => first | k_is | rfl | kernel_rfl)
    (case ki_number_deed => first | k_is | rfl | kernel_rfl)
    (case ki_number_look => first | k_is | rfl | kernel_rfl)
    (case ki_number_number => first | k_is | rfl | kernel_rfl)
    (case ki_number_storm => first | k_is | rfl | kernel_rfl)
    (case ki_number_text => first | k_is | rfl | kernel_rfl)
    (case g_storm => first | k_is | rfl | kernel_rfl)
    (case hg_storm => first | k_is | rfl | kernel_rfl)
    (case hk_storm => first | k_is | rfl | kernel_rfl)
    (case hs_storm => first | k_is | rfl | kernel_rfl)
    (case hd_storm => first | k_is | rfl | kernel_rfl)
    (case ha_storm => first | k_is | rfl | kernel_rfl)
    (case hm_storm => first | k_is | rfl | kernel_rfl)
    (case kv_storm => first | k_is | rfl | kernel_rfl)
    (case ex_storm => first | k_is | rfl | kernel_rfl)
    (case ki_storm_path => first | k_is | rfl | kernel_rfl)
    (case ki_storm_state => first | k_is | rfl | kernel_rfl)
    (case ki_storm_deed => first | k_is | rfl | kernel_rfl)
    (case ki_storm_look => first | k_is | rfl | kernel_rfl)
    (case ki_storm_number => first | k_is | rfl | kernel_rfl)
    (case ki_storm_storm => first | k_is | rfl | kernel_rfl)
    (case ki_storm_text => first | k_is | rfl | kernel_rfl)
    (case g_text => first | k_is | rfl | kernel_rfl)
    (case q_text => first | k_is | rfl | kernel_rfl)
    (case kp_text => first | k_is | rfl | kernel_rfl)
    (case ty_text => first | k_is | rfl | kernel_rfl)
    (case hg_text => first | k_is | rfl | kernel_rfl)
    (case hk_text => first | k_is | rfl | kernel_rfl)
    (case hs_text => first | k_is | rfl | kernel_rfl)
    (case hd_text => first | k_is | rfl | kernel_rfl)
    (case ha_text => first | k_is | rfl | kernel_rfl)
    (case hm_text => first | k_is | rfl | kernel_rfl)
    (case kv_text => first | k_is | rfl | kernel_rfl)
    (case ex_text => first | k_is | rfl | kernel_rfl)
    (case ki_text_path => first | k_is | rfl | kernel_rfl)
    (case ki_text_state => first | k_is | rfl | kernel_rfl)
    (case ki_text_deed => first | k_is | rfl | kernel_rfl)
    (case ki_text_look => first | k_is | rfl | kernel_rfl)
    (case ki_text_number => first | k_is | rfl | kernel_rfl)
    (case ki_text_storm => first | k_is | rfl | kernel_rfl)
    (case ki_text_text => first | k_is | rfl | kernel_rfl)
    (case hn => first | k_is | rfl | kernel_rfl)
    (case ht => first | k_is | rfl | kernel_rfl)
    (case n_MOST_WORD => first | k_is | rfl | kernel_rfl)
    (case n_MOST_DEEP => first | k_is | rfl | kernel_rfl)
    (case n_MOST_WORTH => first | k_is | rfl | kernel_rfl)
    (case n_MOST_NUMBER => first | k_is | rfl | kernel_rfl)
    (case n_MOST_WITHIN => first | k_is | rfl | kernel_rfl)
    (case n_MOST_FIGURES => first | k_is | rfl | kernel_rfl)
    (case n_SMALL => first | k_is | rfl | kernel_rfl)
    (case n_FIGURES => first | k_is | rfl | kernel_rfl)
    (case b_isinstance => first | k_is | rfl | kernel_rfl)
    (case b_str => first | k_is | rfl | kernel_rfl)
    (case b_tuple => first | k_is | rfl | kernel_rfl)
    (case b_dict => first | k_is | rfl | kernel_rfl)
    (case b_int => first | k_is | rfl | kernel_rfl)
    (case b_bool => first | k_is | rfl | kernel_rfl)
    (case b_len => first | k_is | rfl | kernel_rfl)
    (case b_abs => first | k_is | rfl | kernel_rfl)
    (case b_all => first | k_is | rfl | kernel_rfl)
    (case b_any => first | k_is | rfl | kernel_rfl)
    (case b_sum => first | k_is | rfl | kernel_rfl)
    (case b_max => first | k_is | rfl | kernel_rfl)
    (case b_min => first | k_is | rfl | kernel_rfl)
    (case b_range => first | k_is | rfl | kernel_rfl)
    (case b_sorted => first | k_is | rfl | kernel_rfl)
    (case b_list => first | k_is | rfl | kernel_rfl)
    (case b_ValueError => first | k_is | rfl | kernel_rfl)
    (case kx_look => first | k_is | rfl | kernel_rfl)
    (case sg_READING => first | k_is | rfl | kernel_rfl)
    (case sl_READING' => first | k_is | rfl | kernel_rfl)
    (case sg_TWO => first | k_is | rfl | kernel_rfl)
    (case sl_TWO' => first | k_is | rfl | kernel_rfl)
    (case tbPL => exact hT _ (by k_mem))
