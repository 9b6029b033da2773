import PyProof.Rows.All
import Wide.All
import OpenK.AllK
import Wide.FinOn
import HandS.ForMost
import HandS.More
import HandS.Style
import HandS.IsInst
import HandS.Exc
import HandS.ExcOwn
import HandS.TryOnly
import HandS.WordsExc
import HandS.Zip
import KE.DataMinMax
import KE.SortData
import KE.KDictPairs
import HandS.Strs
import HandS.Walk
import KE.DatumOrd
import KE.DatumMoreOrd
import KE.DatumMore
import KE.DatumIndex
import HandS.ExcIs
import HandS.ExcCtx
import HandS.DictComp
import HandS.Finally
import HandS.Rev
import HandS.RevTup
import PyProof.ListStr
import PyProof.StrBlock2
import KE.KEqNest
import KE.KDictCopyH
import KE.KDictWalk
import HandS.Ends
import HandS.TupLe
import HandS.SetTxt0
import HandS.SetFor
import HandS.TupSets
import HandS.SetKeys
import HandS.Text
import HandS.Dict
import PySem.Challenge.RW_fivehues_k62_whole_hues_from_lists
set_option Elab.async false
set_option linter.all false
set_option maxRecDepth 100000
set_option maxHeartbeats 4000000
section
namespace Five
open PySem PySem.Spec PyProof.Rows L2
/-! a def of the top, by its name, and its promise -/
structure DefAt (K : PySem.W.Frag) (mg : Str → Option Value) (x : Str) (st : Stmt) (ps : List Str) (n : Str := x) : Prop where
  ex : ∃ (f : Addr) (fd : FuncData), Fun K n n st f fd ∧ mg x = some (.ref f) ∧ Binds K fd ps []
structure MetAt (K : PySem.W.Frag) (C : Addr) (m qual : Str) (st : Stmt) (ps : List Str) : Prop where
  ex : ∃ (f : Addr) (fd : FuncData), Fun K m qual st f fd ∧ Meth K C m f ∧ Binds K fd ps []
structure Cal (P : Program) (w : World) (K : PySem.W.Frag) (mg : Str → Option Value) (base : Heap) (k : Nat) (x : Str) (sp : Sp) : Prop where
  ex : ∃ (f : Addr) (fd : FuncData) (ps : List Str), FnOk P w K mg base CX0 k f fd ps sp ∧ mg x = some (.ref f) ∧ PySem.W.keepIn K (.ref f) = true ∧ Binds K fd ps []
structure Met (P : Program) (w : World) (K : PySem.W.Frag) (mg : Str → Option Value) (base : Heap) (k : Nat) (C : Addr) (m : Str) (sp : Sp) : Prop where
  ex : ∃ (f : Addr) (fd : FuncData) (ps : List Str), Cls K C ∧ Meth K C m f ∧ FnOk P w K mg base CX0 k f fd ps sp ∧ Binds K fd ps []
structure Mak (P : Program) (w : World) (K : PySem.W.Frag) (mg : Str → Option Value) (base : Heap) (k : Nat) (x : Str) (C : Addr) (sp : Sp) : Prop where
  ex : ∃ (f : Addr) (fd : FuncData) (ps : List Str), Mk K C f ∧ FnOk P w K mg base CX0 k f fd ps sp ∧ mg x = some (.ref C) ∧ Binds K fd ps []
section
variable {P : Program} {w : World} {K : PySem.W.Frag} {mg : Str → Option Value} {base : Heap}
abbrev BodyOk (P : Program) (w : World) (K : PySem.W.Frag) (mg : Str → Option Value) (base : Heap) (k : Nat) (qual : Str) (st : Stmt) (N : List Str) (sp : Sp) : Prop :=
  ∀ (f : Addr) (cdv : Value) (A : Around) (outer : List Env) (s : Shared) (H : Hp) (vs : List V) (Q : VK) (E : XK), Room k (A.deeper (envOfC qual (defScope st) s.heap.objs.size f cdv)) → sp vs H Q E →
      ∃ t, PSs (cxOf CX0 P w K mg base N qual (defScope st) f cdv A outer s H E).nox (defBody st) t ∧ t { nx := fun _ H' => Q .non H', rt := Q } (start N vs) H
theorem cal_of {x n : Str} {st : Stmt} {N ps : List Str} {k : Nat} {sp : Sp} (D : DefAt K mg x st ps n) (S : FnScope N ps (defScope st)) (len : ∀ vs H Q E, sp vs H Q E → vs.length = ps.length)
    (hb : BodyOk P w K mg base k n st N sp) : Cal P w K mg base (k + 1) x sp := by
  obtain ⟨f, fd, F, hm, b⟩ := D.ex
  exact ⟨f, fd, ps, F.ok S len (fun cdv A outer s H vs Q E => hb f cdv A outer s H vs Q E), hm, F.kp, b⟩
theorem met_of {C : Addr} {m qual : Str} {st : Stmt} {N ps : List Str} {k : Nat} {sp : Sp} (c : Cls K C) (D : MetAt K C m qual st ps) (S : FnScope N ps (defScope st)) (len : ∀ vs H Q E, sp vs H Q E → vs.length = ps.length)
    (hb : BodyOk P w K mg base k qual st N sp) : Met P w K mg base (k + 1) C m sp := by
  obtain ⟨f, fd, F, hm, b⟩ := D.ex
  exact ⟨f, fd, ps, c, hm, F.ok S len (fun cdv A outer s H vs Q E => hb f cdv A outer s H vs Q E), b⟩
end
section
variable {X : Cx} {k j : Nat} {C : Addr} {x m : Str} {sp : Sp} {p pos apos : Pos} {e o : Expr} {es : List Expr} {ta : TE} {t : TA}
theorem pe_c (c : Cal X.prog X.w X.K X.mg X.base k x sp) (hr : Room j X.A) (hk : k ≤ j) (hg : Gl X x) (ha : PA X (e :: es) t)
    (hdb : (x == ("__debug__" : Str)) = false := by decide) (he : starEach (e :: es) X.env = (false, eval e X.env) :: starEach es X.env := by rfl) (hpl : (backTo pos (starEach es X.env)).any (·.1) = false := by rfl) :
    PE X (.Call (.Name x p) (e :: es) [] pos) (tCall sp [] E0 t) := by
  obtain ⟨f, fd, ps, F, hm, kp, b⟩ := c.ex
  exact pe_call F (hr.mono hk) hg hm kp b .nil pass0 ha hdb he hpl
theorem pe_mk (c : Mak X.prog X.w X.K X.mg X.base k x C sp) (hr : Room j X.A) (hk : k + 1 ≤ j) (hg : Gl X x) (ha : PA X (e :: es) t)
    (hdb : (x == ("__debug__" : Str)) = false := by decide) (he : starEach (e :: es) X.env = (false, eval e X.env) :: starEach es X.env := by rfl) (hpl : (backTo pos (starEach es X.env)).any (·.1) = false := by rfl) :
    PE X (.Call (.Name x p) (e :: es) [] pos) (tMake C sp [] E0 t) := by
  obtain ⟨f, fd, ps, M, F, hm, b⟩ := c.ex
  exact pe_make M F (hr.mono hk) hg hm b .nil pass0 ha hdb he hpl
theorem pe_mt {pl : Sem Bool} (c : Met X.prog X.w X.K X.mg X.base k C m sp) (hr : Room j X.A) (hk : k ≤ j) (he : PE X o ta) (ha : PA X (e :: es) t)
    (hst : starEach (e :: es) X.env = (false, eval e X.env) :: starEach es X.env := by rfl) (hpl : (backTo pos (starEach es X.env)).any (·.1) = false := by rfl)
    (ht : eval (.Call (.Attribute o m apos) (e :: es) [] pos) X.env = (do
      let ov ← eval o X.env
      standAt apos.atName
      let (f, first) ← holding [ov] (getMethod ov m pl)
      callWith pos f first (backTo pos (starEach (e :: es) X.env)) (backToKw pos (keywordEach [] X.env))) := by rfl) :
    PE X (.Call (.Attribute o m apos) (e :: es) [] pos) (tMeth C m sp [] E0 ta t) := by
  obtain ⟨f, fd, ps, c, hm, F, b⟩ := c.ex
  exact pe_meth he c hm F (hr.mono hk) b .nil pass0 ha hst hpl ht
theorem pe_mt0 {pl : Sem Bool} (c : Met X.prog X.w X.K X.mg X.base k C m sp) (hr : Room j X.A) (hk : k ≤ j) (he : PE X o ta)
    (ht : eval (.Call (.Attribute o m apos) [] [] pos) X.env = (do
      let ov ← eval o X.env
      standAt apos.atName
      let (f, first) ← holding [ov] (getMethod ov m pl)
      callWith pos f first (backTo pos (starEach [] X.env)) (backToKw pos (keywordEach [] X.env))) := by rfl) :
    PE X (.Call (.Attribute o m apos) [] [] pos) (tMeth C m sp [] E0 ta tNil) := by
  obtain ⟨f, fd, ps, c, hm, F, b⟩ := c.ex
  exact pe_meth0 he c hm F (hr.mono hk) b .nil pass0 ht
theorem pe_gc {v : V} (hg : Gl X x) (h : ∃ u, X.mg x = some u ∧ RelV v u) (hd : (x == ("__debug__" : Str)) = false := by decide) : PE X (.Name x pos) (tC v) := by
  obtain ⟨u, e, r⟩ := h
  exact pe_glob hg e r hd
end
end Five
end
section
namespace Five
open PySem PySem.Spec PyProof.Rows L2
open PySem.W (minD dataLt dataLt_str AlikeAll min_list_data sorted_data dataLe alike alikeAll EachIs AllAlike Sortable)
/-! rules that the layer lacks -/
section
variable {X : Cx}
theorem dpAll_strs {K : PySem.W.Frag} {H : Hp} : ∀ ss : List Str, DpAll K H (ss.map V.str) (ss.map PyData.str)
  | [] => .nil
  | s :: r => .cons (.str s) (dpAll_strs r)
theorem reads_str {h : Heap} {z : Str} {t : Tok} {d : PyData} {as : List Addr} (r : Reads h (.str z t) d as) : d = .str z := by
  cases r
  rfl
theorem minD_str : ∀ (xs : List Str) (x : Str), ∃ m, minD (.str x) (xs.map PyData.str) = .str m ∧ m ∈ x :: xs ∧ ∀ y ∈ x :: xs, ¬ y.cps.toList < m.cps.toList
  | [], x => ⟨x, rfl, List.mem_cons_self, fun y hy => by
    have e : y = x := by simpa using hy
    rw [e]
    exact List.lt_irrefl _⟩
  | a :: r, x => by
    show ∃ m, (r.map PyData.str).foldl (fun a y => if dataLt y a then y else a) (if dataLt (.str a) (.str x) then .str a else .str x) = .str m ∧ _
    by_cases c : a.cps.toList < x.cps.toList
    · have e : dataLt (.str a) (.str x) = true := by rw [dataLt_str]; exact decide_eq_true c
      rw [if_pos e]
      obtain ⟨m, h1, h2, h3⟩ := minD_str r a
      refine ⟨m, h1, List.mem_cons_of_mem _ h2, fun y hy => ?_⟩
      rcases List.mem_cons.mp hy with e | hy
      · rw [e]
        intro q
        exact h3 a List.mem_cons_self (List.lt_trans c q)
      · exact h3 y hy
    · have e : ¬ dataLt (.str a) (.str x) = true := by rw [dataLt_str]; simpa using c
      rw [if_neg e]
      obtain ⟨m, h1, h2, h3⟩ := minD_str r x
      refine ⟨m, h1, ?_, fun y hy => ?_⟩
      · rcases List.mem_cons.mp h2 with e | hm
        · rw [e]; exact List.mem_cons_self
        · exact List.mem_cons_of_mem _ (List.mem_cons_of_mem _ hm)
      · rcases List.mem_cons.mp hy with e | hy
        · rw [e]; exact h3 x List.mem_cons_self
        · rcases List.mem_cons.mp hy with e | hy
          · rw [e]
            intro q
            have hx := h3 x List.mem_cons_self
            exact hx (List.lt_of_le_of_lt (show x.cps.toList ≤ a.cps.toList from c) q)
          · exact h3 y (List.mem_cons_of_mem _ hy)
/-- min(xs) of a list of texts -/
def rMinS (K : PySem.W.Frag) : List V → Hp → VK → Prop := fun vs H Q => ∃ (a : Addr) (ss : List Str), vs = [V.ref a] ∧ SqL K H a (ss.map V.str) ∧ ss ≠ [] ∧ ∀ m, m ∈ ss → (∀ y ∈ ss, ¬ y.cps.toList < m.cps.toList) → Q (.str m) H
theorem alikeAll_strs (ss : List Str) : AlikeAll (ss.map PyData.str) := by
  refine ⟨fun x hx y hy => ?_, fun x hx => ?_⟩
  · obtain ⟨p, _, rfl⟩ := List.mem_map.mp hx
    obtain ⟨q, _, rfl⟩ := List.mem_map.mp hy
    rfl
  · obtain ⟨p, _, rfl⟩ := List.mem_map.mp hx
    exact fun h => nomatch h
theorem depth_strs : ∀ ss : List Str, PyData.depthAll (ss.map PyData.str) = 0
  | [] => by simp [PyData.depthAll]
  | x :: xs => by
    rw [List.map_cons, PyData.depthAll, depth_strs xs]
    simp [PyData.depth]
theorem cr_minS (hc : X.calm = true) (hu : X.A.units + 64 < cLine) : CallR X (.builtin "min") (rMinS X.K) := by
  intro pins s σ H vs us Q I r h
  obtain ⟨a, ss, rfl, hs, hne, q⟩ := h
  obtain ⟨its, rv, hl, _⟩ := I.list hs
  rw [Vals.ref1 r]
  obtain ⟨x, xs, rfl⟩ : ∃ x xs, ss = x :: xs := by
    cases ss with
    | nil => exact absurd rfl hne
    | cons x xs => exact ⟨x, xs, rfl⟩
  obtain ⟨as, hr⟩ := Dp.readsAll I ((x :: xs).map PyData.str) _ its (dpAll_strs (x :: xs)) rv
  refine min_list_data (x := .str x) (xs := xs.map PyData.str) (I.ok.hd hc) hl.isList (by simpa using hr) (alikeAll_strs (x :: xs)) (by have := depth_strs (x :: xs); rw [List.map_cons] at this; omega) fun i v h' tk bs hv rd hk => ?_
  obtain ⟨m, e1, e2, e3⟩ := minD_str xs x
  rw [e1] at rd
  have hv' : its[i]? = some v := by simpa using hv
  have : ∃ z t, v = .str z t := by
    obtain ⟨y, hy⟩ : ∃ y, ((x :: xs).map V.str)[i]? = some y := by
      have hi : i < its.length := (List.getElem?_eq_some_iff.mp hv').1
      rw [← rv.length] at hi
      exact ⟨_, List.getElem?_eq_getElem hi⟩
    obtain ⟨u, hu1, hu2⟩ := Vals.get rv hy
    rw [hv'] at hu1
    cases hu1
    rw [List.getElem?_map] at hy
    cases ez : (x :: xs)[i]? with
    | none => rw [ez] at hy; cases hy
    | some z =>
      rw [ez] at hy
      cases hy
      obtain ⟨t, e⟩ := hu2
      exact ⟨z, t, e⟩
  obtain ⟨z, t, rfl⟩ := this
  have ez := reads_str rd
  injection ez with ez
  subst ez
  exact ⟨.str _, H, I.kept hk, ⟨_, rfl⟩, q _ e2 e3⟩

/-- sorted(xs) of a list that reads as data -/
def rSortedDt (K : PySem.W.Frag) : List V → Hp → VK → Prop := fun vs H Q => ∃ (a : Addr) (bs : List (V × PyData)), vs = [V.ref a] ∧ SqL K H a (bs.map (·.1)) ∧ (∀ b ∈ bs, Dp K H b.1 b.2) ∧ AllAlike (bs.map (·.2)) ∧ Sortable (bs.map (·.2)) ∧ (∀ b ∈ bs, b.2.depth ≤ 60) ∧
  ∀ p, H p = none → Q (.ref p) (upd H p (.lst ((bs.mergeSort (dataLe false (·.2))).map (·.1))))
theorem each_of_vals {H : Hp} : ∀ {bs : List (V × PyData)} {us : List Value}, Vals (bs.map (·.1)) us → EachIs (fun (v : Value) (b : V × PyData) => RelV b.1 v ∧ b ∈ bs) us bs := by
  have key : ∀ (bs : List (V × PyData)) (all : List (V × PyData)) (us : List Value), (∀ b ∈ bs, b ∈ all) → Vals (bs.map (·.1)) us → EachIs (fun (v : Value) (b : V × PyData) => RelV b.1 v ∧ b ∈ all) us bs := by
    intro bs all
    induction bs with
    | nil => intro us _ r; cases r; exact .nil
    | cons b r ih =>
      intro us ha rv
      rw [List.map_cons] at rv
      cases rv with
      | cons h t => exact .cons ⟨h, ha b List.mem_cons_self⟩ (ih _ (fun c hc => ha c (List.mem_cons_of_mem _ hc)) t)
  intro bs us r
  exact key bs bs us (fun _ h => h) r
theorem vals_of_each {R : Value → V × PyData → Prop} (hR : ∀ v b, R v b → RelV b.1 v) : ∀ {out : List Value} {bs : List (V × PyData)}, EachIs R out bs → Vals (bs.map (·.1)) out
  | _, _, .nil => .nil
  | _, _, .cons h t => .cons (hR _ _ h) (vals_of_each hR t)
theorem cr_sortedDt (hu : X.A.units + 64 < cLine) : CallR X (.builtin "sorted") (rSortedDt X.K) := by
  intro pins s σ H vs us Q I r h
  obtain ⟨a, bs, rfl, hs, hd, hal, hk, hdp, q⟩ := h
  obtain ⟨its, rv, hl, hz⟩ := I.list hs
  rw [Vals.ref1 r]
  have e0 := each_of_vals (H := H) rv
  have hlen : bs.length ≤ sizeLine := by
    rw [List.length_map] at hz
    exact hz
  have er : EachIs (fun (v : Value) (b : V × PyData) => ∃ as, Reads s.heap v b.2 as) its bs := e0.mono fun v b ⟨rb, mb⟩ => Dp.reads I b.2 b.1 v (hd b mb) rb
  have fin : ∀ out : List Value, out.length = bs.length → EachIs (fun (v : Value) (b : V × PyData) => RelV b.1 v ∧ b ∈ bs) out (bs.mergeSort (dataLe false (·.2))) → EP X pins σ Q (.ref (s.heap.objs.size + 1)) { s with heap := sortedAll s.heap its (List.toArray out) } := fun out ho eo => by
    obtain ⟨ep, he'⟩ := PyProof.Rows.sortedAll_at s.heap its out.toArray
    have hv := vals_of_each (R := fun (v : Value) (b : V × PyData) => RelV b.1 v ∧ b ∈ bs) (fun v b h => h.1) eo
    have hl2 : ((bs.mergeSort (dataLe false (·.2))).map (·.1)).length ≤ sizeLine := by
      rw [List.length_map, List.length_mergeSort]
      exact hlen
    exact ⟨.ref _, upd H (s.heap.objs.size + 1) (.lst ((bs.mergeSort (dataLe false (·.2))).map (·.1))), I.laid (t' := s.toks) (fun _ _ => PyProof.Rows.sortedAll_old) (Nat.le_succ _) ⟨hl2, out, ep, hv, by simpa using he'⟩, rfl, q _ (I.hok.fresh (Nat.le_succ _))⟩
  exact sorted_data (R := fun (v : Value) (b : V × PyData) => RelV b.1 v ∧ b ∈ bs) (enc := fun b : V × PyData => b.2) (bs := bs) hl.isList e0 er hal hk hlen (fun b hb => by have := hdp b hb; omega) fin

/-! d.update(pairs) -/
theorem paired_get {α β : Type} {R : α → β → Prop} : ∀ {xs : List α} {ys : List β}, Paired R xs ys → ∀ (i : Nat) (x : α), xs[i]? = some x → ∃ y, ys[i]? = some y ∧ R x y
  | _, _, .nil, i, x, h => by simp at h
  | _, _, .cons r t, 0, x, h => by
    have e := Option.some.inj (show some _ = some x from h)
    subst e
    exact ⟨_, rfl, r⟩
  | _, _, .cons r t, i + 1, x, h => by
    obtain ⟨y, h1, h2⟩ := paired_get t i x (by simpa using h)
    exact ⟨y, by simpa using h1, h2⟩
theorem paired_back {α β : Type} {R : α → β → Prop} : ∀ {xs : List α} {ys : List β}, Paired R xs ys → ∀ (i : Nat) (y : β), ys[i]? = some y → ∃ x, xs[i]? = some x ∧ R x y
  | _, _, .nil, i, x, h => by simp at h
  | _, _, .cons r t, 0, x, h => by
    have e := Option.some.inj (show some _ = some x from h)
    subst e
    exact ⟨_, rfl, r⟩
  | _, _, .cons r t, i + 1, x, h => by
    obtain ⟨y, h1, h2⟩ := paired_back t i x (by simpa using h)
    exact ⟨y, by simpa using h1, h2⟩
theorem paired_mem {α β : Type} {R : α → β → Prop} : ∀ {xs : List α} {ys : List β}, Paired R xs ys → ∀ x ∈ xs, ∃ y ∈ ys, R x y
  | _, _, .nil, x, h => nomatch h
  | _, _, .cons r t, x, h => by
    rcases List.mem_cons.mp h with e | h
    · subst e
      exact ⟨_, List.mem_cons_self, r⟩
    · obtain ⟨y, h1, h2⟩ := paired_mem t x h
      exact ⟨y, List.mem_cons_of_mem _ h1, h2⟩
section
variable {pins : List (Addr × Obj)} {σ : L2.St} {H : Hp} {s : Shared}
theorem pair_items (I : Inv X pins σ H s) : ∀ {ps : List Addr} {kvs : List (Key × V)}, Paired (fun p kv => SqT X.K H p [kV kv.1, kv.2]) ps kvs →
    ∃ (prs : List (Key × Value)) (qs : List (Value × Value)), KV kvs prs ∧ Paired (fun (p : Addr) (q : Value × Value) => IsTup s.heap p #[q.1, q.2]) ps qs ∧ Paired (fun (r : Key × Value) (q : Value × Value) => r.2 = q.2 ∧ keyIs r.1 q.1 = true) prs qs
  | _, _, .nil => ⟨[], [], .nil, .nil, .nil⟩
  | _, _, .cons (a := p) (b := kv) h t => by
    obtain ⟨prs, qs, r, h1, h2⟩ := pair_items I t
    obtain ⟨its, rv, ht, _⟩ := I.tuple h
    obtain ⟨u, y, ei, ru, ry⟩ := vals2 rv
    subst ei
    exact ⟨(kv.1, y) :: prs, (u, y) :: qs, .cons ⟨rfl, ry⟩ r, .cons ht h1, .cons ⟨rfl, kV_is (P := X.prog) (w := X.w) ru⟩ h2⟩
theorem pair_arg (I : Inv X pins σ H s) {a d : Addr} {ps : List Addr} {qs : List (Value × Value)} (hs : SqL X.K H a (ps.map V.ref)) (hq : Paired (fun (p : Addr) (q : Value × Value) => IsTup s.heap p #[q.1, q.2]) ps qs) (ho : ∃ o, s.heap.get? d = some o ∧ o.cls = .type "dict") :
    ∃ (fp : List Addr) (OK : Heap → Prop), PairArg X.prog X.w "list" a fp [] qs.length (PairRel qs) OK ∧ OK s.heap ∧ d ∉ fp := by
  obtain ⟨its, rv, pl, hz⟩ := I.list hs
  have ei := refs_at rv
  subst ei
  obtain ⟨od, hd, hdc⟩ := ho
  refine ⟨_, _, PairArg.list a (ps.map Value.ref).toArray (fun j => ps.getD j 0) qs, ⟨pl, ⟨?_, fun j k v hj => ?_⟩⟩, fun hm => ?_⟩
  · simp [Paired.length hq]
  · obtain ⟨p, h1, h2⟩ := paired_back hq j (k, v) hj
    refine ⟨?_, .inl ?_⟩
    · simp [h1]
    · simp only [List.getD, h1, Option.getD_some]
      exact h2
  · rcases List.mem_cons.mp hm with e | hm
    · subst e
      obtain ⟨o, n, e1, e2, _⟩ := pl
      rw [hd] at e1
      cases e1
      rw [hdc] at e2
      exact absurd e2 (by decide)
    · obtain ⟨j, hj, e⟩ := List.mem_map.mp hm
      have hj' : j < qs.length := List.mem_range.mp hj
      obtain ⟨p, h1, o, e1, e2, _⟩ := paired_back hq j qs[j] (List.getElem?_eq_getElem hj')
      have e3 : d = p := by
        rw [← e]
        simp [h1]
      subst e3
      rw [hd] at e1
      cases e1
      rw [hdc] at e2
      exact absurd e2 (by decide)
end
def rUpdP (K : PySem.W.Frag) : V → List V → Hp → VK → Prop := fun x xs H Q => ∃ (d a : Addr) (acc kvs : List (Key × V)) (ps : List Addr), x = .ref d ∧ xs = [.ref a] ∧ H d = some (.dK acc) ∧ SqL K H a (ps.map V.ref) ∧ Paired (fun p kv => SqT K H p [kV kv.1, kv.2]) ps kvs ∧
  acc.length + kvs.length ≤ sizeLine ∧ Q .non (upd H d (.dK (mergeK acc kvs)))
theorem mt_updateP (hc : X.calm = true) : MtR X "dict.update" (rUpdP X.K) := by
  intro pins s σ H x xs v us Q I rx rxs h
  obtain ⟨d, a, acc, kvs, ps, rfl, rfl, hd, hs, hp, hz, q⟩ := h
  cases rx
  obtain ⟨u, eu, rx⟩ := vals1 rxs
  subst eu
  cases rx
  obtain ⟨z, hsys, vs, rel, dd⟩ := dk_of I.hok hd
  obtain ⟨prs, qs, r1, r2, r3⟩ := pair_items I hp
  obtain ⟨fp, OK, P, ok, nf⟩ := pair_arg (d := d) I hs r2 dd.typeIs
  have el : kvs.length = qs.length := (Paired.length r1).trans (Paired.length r3)
  refine call_update_pairs (knd := mixKind X.prog X.w) (acc := vs) (kvs := prs) P (I.ok.hd hc) ok nf ⟨Paired.length r3, fun i key w hr => ?_⟩ dd (by rw [← Paired.length rel, ← el]; exact hz) fun h' tk hd' hk => ?_
  · obtain ⟨⟨k0, v0⟩, e1, e2, e3⟩ := paired_back r3 i (key, w) hr
    simp only at e2 e3
    subst e2
    exact ⟨k0, e1, e3⟩
  · have he : ∃ q, h'.get? d = some q := let ⟨q, _, _, hq, _⟩ := hd'; ⟨q, hq⟩
    have hl2 : (mergeK acc kvs).length ≤ sizeLine := Nat.le_trans (length_mergeK kvs acc) hz
    exact ⟨.non, _, I.write (e := d) (t' := tk) (by rw [hd]; exact True.intro) (.inl rfl) (fun b ob hb hob => hk b ob hb (fun z => nomatch z) hob) he (dk_new hl2 hsys (KV.merge r1 rel) hd'), rfl, q⟩
/-! .. with keys that are tuples -/
def mergeT (kvs more : List (List Key × V)) : List (List Key × V) := more.foldl (fun acc kv => putK acc kv.1 kv.2) kvs
theorem length_mergeT : ∀ (more kvs : List (List Key × V)), (mergeT kvs more).length ≤ kvs.length + more.length
  | [], kvs => by show kvs.length ≤ kvs.length + 0; omega
  | p :: r, kvs => by
    have h1 := length_mergeT r (putK kvs p.1 p.2)
    have h2 := length_putK kvs p.1 p.2
    show (mergeT (putK kvs p.1 p.2) r).length ≤ _
    rw [List.length_cons]; omega
def rUpdT (K : PySem.W.Frag) : V → List V → Hp → VK → Prop := fun x xs H Q => ∃ (d a : Addr) (acc kvs : List (List Key × V)) (ps : List Addr), x = .ref d ∧ xs = [.ref a] ∧ H d = some (.dT acc) ∧ SqL K H a (ps.map V.ref) ∧
  Paired (fun p kv => ∃ b, H b = some (.tup (kv.1.map kV)) ∧ SqT K H p [.ref b, kv.2]) ps kvs ∧ acc.length + kvs.length ≤ sizeLine ∧ Q .non (upd H d (.dT (mergeT acc kvs)))
theorem pair_itemsT {pins : List (Addr × Obj)} {σ : L2.St} {H : Hp} {s : Shared} (I : Inv X pins σ H s) : ∀ {ps : List Addr} {kvs : List (List Key × V)}, Paired (fun p kv => ∃ b, H b = some (.tup (kv.1.map kV)) ∧ SqT X.K H p [.ref b, kv.2]) ps kvs →
    ∃ (prs : List (List Key × Addr × Value)) (qs : List (Value × Value)), KT H kvs prs ∧ Paired (fun (p : Addr) (q : Value × Value) => IsTup s.heap p #[q.1, q.2]) ps qs ∧ Paired (fun (r : List Key × Addr × Value) (q : Value × Value) => r.2.2 = q.2 ∧ q.1 = .ref r.2.1) prs qs
  | _, _, .nil => ⟨[], [], .nil, .nil, .nil⟩
  | _, _, .cons (a := p) (b := kv) h t => by
    obtain ⟨prs, qs, r, h1, h2⟩ := pair_itemsT I t
    obtain ⟨b, hb, h⟩ := h
    obtain ⟨its, rv, ht, _⟩ := I.tuple h
    obtain ⟨u, y, ei, ru, ry⟩ := vals2 rv
    subst ei
    cases ru
    exact ⟨(kv.1, b, y) :: prs, (.ref b, y) :: qs, .cons ⟨rfl, hb, ry⟩ r, .cons ht h1, .cons ⟨rfl, rfl⟩ h2⟩
theorem KT_merge {H : Hp} : ∀ {more : List (List Key × V)} {rs : List (List Key × Addr × Value)} {kvs : List (List Key × V)} {vs : List (List Key × Addr × Value)}, KT H more rs → KT H kvs vs → KT H (mergeT kvs more) (storedAllH vs rs) := by
  intro more rs kvs vs r
  unfold KT at r
  induction r generalizing kvs vs with
  | nil => intro q; exact q
  | @cons p q ps qs h t ih =>
    intro r0
    have e : KT H (putK kvs p.1 p.2) (storedH vs q.1 q.2.1 q.2.2) := by
      have := r0.put p.1 h.2.1 h.2.2
      rw [← h.1]; exact this
    exact ih e
theorem mt_updateT (hc : X.calm = true) (hu : X.A.units + 64 < cLine) : MtR X "dict.update" (rUpdT X.K) := by
  intro pins s σ H x xs v us Q I rx rxs h
  obtain ⟨d, a, acc, kvs, ps, rfl, rfl, hd, hs, hp, hz, q⟩ := h
  cases rx
  obtain ⟨u, eu, rx⟩ := vals1 rxs
  subst eu
  cases rx
  obtain ⟨z, hsys, vs, rel, dd⟩ := dt_of I.hok hd
  obtain ⟨prs, qs, r1, r2, r3⟩ := pair_itemsT I hp
  obtain ⟨fp, OK, P, ok, nf⟩ := pair_arg (d := d) I hs r2 dd.typeIs
  have el : kvs.length = qs.length := (Paired.length r1).trans (Paired.length r3)
  have isk : ∀ (h' : Heap), (∀ b o, b ≠ d → b ∉ ([] : List Addr) → s.heap.get? b = some o → h'.get? b = some o) → ∀ (l : List (List Key × V)) (m : List (List Key × Addr × Value)), KT H l m → ∀ x ∈ m, (tupleKind (mixKind X.prog X.w)).is h' x.1 x.2.1 := by
    intro h' hk l m q
    induction q with
    | nil => intro x hx; exact nomatch hx
    | @cons p q ps qs hq t ih =>
      intro x hx
      rcases List.mem_cons.mp hx with e | hx
      · subst e
        have e1 : H x.2.1 = some (.tup (x.1.map kV)) := by rw [← hq.1]; exact hq.2.1
        obtain ⟨o, its, n, h1, h2⟩ := key_of I.hok e1
        have ne : x.2.1 ≠ d := ne_of e1 hd (fun z => nomatch z)
        exact ⟨o, its, n, hk _ _ ne (fun z => nomatch z) h1, h2⟩
      · exact ih x hx
  have hst : KeysStay (tupleKind (mixKind X.prog X.w)) s.heap d [] (vs ++ prs) := fun h' hk x hx => (List.mem_append.mp hx).elim (isk h' hk acc vs rel x) (isk h' hk kvs prs r1 x)
  refine call_update_pairsH (knd := tupleKind (mixKind X.prog X.w)) (acc := vs) (ps := prs) P (I.ok.hd hc) (tupleKind_room_in1 (by omega)) ok nf ⟨Paired.length r3, fun i key w hr => ?_⟩ hst dd (by rw [← Paired.length rel, ← el]; exact hz) fun h' tk hd' hk => ?_
  · obtain ⟨⟨k0, b0, v0⟩, e1, e2, e3⟩ := paired_back r3 i (key, w) hr
    simp only at e2 e3
    subst e2 e3
    exact ⟨k0, b0, e1, rfl⟩
  · obtain ⟨qo, es, ep, hq, h2, h3, h4, _, h5⟩ := hd'
    have hl2 : (mergeT acc kvs).length ≤ sizeLine := Nat.le_trans (length_mergeT kvs acc) hz
    refine ⟨.non, _, I.write (e := d) (o := .dT (mergeT acc kvs)) (t' := tk) (by rw [hd]; exact True.intro) (.inl rfl) (fun b ob hb hob => hk b ob hb (fun z => nomatch z) hob) ⟨qo, hq⟩ ⟨hl2, hsys, _, (KT_merge r1 rel).keeps fun c ys ec => ?_, qo, es, ep, hq, h2, h3, h4, h5⟩, rfl, q⟩
    rw [upd_ne (ne_of ec hd (fun z => nomatch z))]
    exact ec
end
end Five
end
section
namespace Five
open PySem PySem.Spec PyProof.Rows L2
/-! len(set(xs)) of texts, any of them alike -/
section
variable {κ : Type} [DecidableEq κ]
def ddAdd (acc : List κ) (k : κ) : List κ := if k ∈ acc then acc else acc ++ [k]
/-- the unlike ones, as they are first met -/
def dd (l : List κ) : List κ := l.foldl ddAdd []
theorem dd_snoc (l : List κ) (k : κ) : dd (l ++ [k]) = ddAdd (dd l) k := by unfold dd; rw [List.foldl_append]; rfl
theorem dd_mem (l : List κ) (k : κ) : k ∈ dd l ↔ k ∈ l := by
  have key : ∀ (m acc : List κ), k ∈ m.foldl ddAdd acc ↔ k ∈ acc ∨ k ∈ m := by
    intro m
    induction m with
    | nil => intro acc; simp
    | cons a r ih =>
      intro acc
      rw [List.foldl_cons, ih, List.mem_cons]
      unfold ddAdd
      split
      · rename_i h
        constructor
        · rintro (h1 | h1)
          · exact .inl h1
          · exact .inr (.inr h1)
        · rintro (h1 | h1 | h1)
          · exact .inl h1
          · rw [h1]; exact .inl h
          · exact .inr h1
      · rw [List.mem_append, List.mem_singleton]
        constructor
        · rintro ((h1 | h1) | h1)
          · exact .inl h1
          · exact .inr (.inl h1)
          · exact .inr (.inr h1)
        · rintro (h1 | h1 | h1)
          · exact .inl (.inl h1)
          · exact .inl (.inr h1)
          · exact .inr h1
  unfold dd
  rw [key]
  simp
theorem dd_le (l : List κ) : (dd l).length ≤ l.length := by
  have key : ∀ (m acc : List κ), (m.foldl ddAdd acc).length ≤ acc.length + m.length := by
    intro m
    induction m with
    | nil => intro acc; simp
    | cons a r ih =>
      intro acc
      rw [List.foldl_cons, List.length_cons]
      have h1 := ih (ddAdd acc a)
      have h2 : (ddAdd acc a).length ≤ acc.length + 1 := by unfold ddAdd; split <;> simp
      omega
  have := key l []
  simpa [dd] using this
theorem dd_nodup {l : List κ} (h : l.Nodup) : dd l = l := by
  have key : ∀ (m acc : List κ), (acc ++ m).Nodup → m.foldl ddAdd acc = acc ++ m := by
    intro m
    induction m with
    | nil => intro acc _; simp
    | cons a r ih =>
      intro acc hn
      have ha : a ∉ acc := fun q => (List.nodup_append.mp hn).2.2 a q a (by simp) rfl
      have e : ddAdd acc a = acc ++ [a] := by unfold ddAdd; rw [if_neg ha]
      rw [List.foldl_cons, e, ih (acc ++ [a]) (by simpa using hn)]
      simp
  have := key l [] (by simpa using h)
  simpa [dd] using this
theorem dd_lt {l : List κ} (h : ¬ l.Nodup) : (dd l).length < l.length := by
  have key : ∀ (m acc : List κ), acc.Nodup → ¬ (acc ++ m).Nodup → (m.foldl ddAdd acc).length < acc.length + m.length := by
    intro m
    induction m with
    | nil => intro acc ha hn; exact absurd (by simpa using ha) hn
    | cons a r ih =>
      intro acc ha hn
      rw [List.foldl_cons, List.length_cons]
      by_cases q : a ∈ acc
      · have e : ddAdd acc a = acc := by unfold ddAdd; rw [if_pos q]
        rw [e]
        have h1 : ∀ (m acc : List κ), (m.foldl ddAdd acc).length ≤ acc.length + m.length := by
          intro m
          induction m with
          | nil => intro acc; simp
          | cons a r ih =>
            intro acc
            rw [List.foldl_cons, List.length_cons]
            have h1 := ih (ddAdd acc a)
            have h2 : (ddAdd acc a).length ≤ acc.length + 1 := by unfold ddAdd; split <;> simp
            omega
        have := h1 r acc
        omega
      · have e : ddAdd acc a = acc ++ [a] := by unfold ddAdd; rw [if_neg q]
        rw [e]
        have hn2 : ¬ ((acc ++ [a]) ++ r).Nodup := by simpa using hn
        have ha2 : (acc ++ [a]).Nodup := List.nodup_append.mpr ⟨ha, by simp, fun x hx y hy e => q (by
          have : y = a := by simpa using hy
          rw [← this, ← e]; exact hx)⟩
        have := ih (acc ++ [a]) ha2 hn2
        rw [List.length_append, List.length_singleton] at this
        omega
  have := key l [] (by simp) (by simpa using h)
  simpa [dd] using this
end
section
variable {prog : Program} {w : World} {A : Around} {R : Result → Shared → Prop} {J : Addr} {fp wr : List Addr} {G : Array GenState → Array GenState → Prop} {n : Nat} {P : Nat → Value → Prop} {Wt : Nat → Shared → Prop}
theorem set_texts_loop (W : WalksS prog w A.in1 J fp wr G n P Wt) (Z : Addr) (out : Z ∉ fp) (ks : List Str) (hks : ks.length = n) (isk : ∀ i v, P i v → ∃ x t, ks[i]? = some x ∧ v = .str x t) (room : n + 1 < scanBound) :
    ∀ (d i : Nat) (s : Shared), n - i = d → i ≤ n → Wt i s → s.heap.SetOf (strKind prog w) Z (fun k => decide (k ∈ ks.take i)) (dd (ks.take i)).length →
      (∀ s', Moved (Z :: wr) G s s' → s'.heap.SetOf (strKind prog w) Z (fun k => decide (k ∈ ks)) (dd ks).length → R (.ok (.ret .none)) s') →
      codeAny (model prog w) A (.builtin "set.update.loop" ⟨[.ref Z, .ref J], []⟩) R s := by
  have zw : Z ∉ wr := fun q => out (W.sub _ q)
  have up : ∀ b ∈ wr, b ∈ Z :: wr := fun b q => List.mem_cons_of_mem _ q
  have stay : ∀ {s s' : Shared} {S : Str → Bool} {m : Nat}, Moved wr G s s' → s.heap.SetOf (strKind prog w) Z S m → s'.heap.SetOf (strKind prog w) Z S m := fun mv ⟨o, es, ep, t, e, r⟩ => ⟨o, es, ep, t, mv.heap Z _ zw e, r⟩
  intro d
  induction d with
  | zero =>
    intro i s hd hi st hz fin
    have e : i = n := by omega
    subst e
    refine codeAny_builtin PyProof.Rows.F.entry_set_update_loop ?_
    rw [Around.under_plainId PyProof.Rows.F.plain_set_update_loop _]
    refine wpAny_bind (m := pyNext (.ref J)) (W.done s _ _ st fun s1 mv => ?_)
    refine wpAny_pure (fin s1 (mv.mono up) ?_)
    have h := stay mv hz
    rw [List.take_of_length_le (Nat.le_of_eq hks)] at h
    exact h
  | succ d ih =>
    intro i s hd hi st hz fin
    have lt : i < n := by omega
    refine codeAny_builtin PyProof.Rows.F.entry_set_update_loop ?_
    rw [Around.under_plainId PyProof.Rows.F.plain_set_update_loop _]
    refine wpAny_bind (m := pyNext (.ref J)) (W.item i s _ _ lt st fun v s1 hp st1 mv => ?_)
    obtain ⟨x, t, ex, rfl⟩ := isk i v hp
    have h1 := stay mv hz
    refine wpAny_bind (m := holding [Value.str x t] (setAdd Z (.str x t))) (wpAny_holding ?_)
    unfold setAdd
    refine wpAny_holding (wpAny_bind ((strKind prog w).pyHash (k := x) (strKind_is _ _ _ _) ?_))
    have hl : (dd (ks.take i)).length + 1 < scanBound := by
      have q1 := dd_le (ks.take i)
      rw [List.length_take] at q1
      omega
    refine wpAny_setAddHashed_of (knd := strKind prog w) (s := { s1 with toks := s1.toks + 1 }) (strKind_is _ _ _ _) rfl h1 hl fun h' sb h2 => ?_
    have et : ks.take (i + 1) = ks.take i ++ [x] := by rw [List.take_add_one, ex]; rfl
    have h3 : h'.SetOf (strKind prog w) Z (fun k => decide (k ∈ ks.take (i + 1))) (dd (ks.take (i + 1))).length := by
      refine SetOf_congr h2 (fun k => ?_) ?_
      · rw [et]
        by_cases a : k ∈ ks.take i <;> by_cases b : k = x <;> simp [a, b]
      · rw [et, dd_snoc]
        unfold ddAdd
        by_cases a : x ∈ ks.take i
        · rw [if_pos ((dd_mem _ _).mpr a), if_pos (by simpa using a)]
        · rw [if_neg fun q => a ((dd_mem _ _).mp q), if_neg (by simpa using a), List.length_append, List.length_singleton]
    refine wpAny_pure ⟨plainId_quiet PyProof.Rows.F.plain_set_update_loop _, ih (i + 1) _ (by omega) lt (W.frame _ s1 _ _ st1 (Nat.le_succ _) fun b q o e => ?_) h3 fun s2 mv2 h4 => ?_⟩
    · rw [sb.2 b fun z : b = Z => out (by rw [← z]; exact q)]
      exact e
    · refine fin s2 (Moved.trans W.gtrans ((mv.mono up).then_heap (Nat.le_succ _) fun b o q e => ?_) mv2) h4
      rw [sb.2 b fun z : b = Z => q (by rw [z]; exact List.mem_cons_self)]
      exact e
end

section
variable {prog : Program} {w : World} {A : Around} {E : Value → Shared → Prop} {s : Shared}
/-- a fresh set object -/
abbrev newSetO (led : Bool) : Obj := { cls := .type "set", dict := none, data := .set #[] 0 (.fresh 0 0 led) }
theorem strs_is {us : List Value} {xs : List Str} (h : StrsAre us xs) : ∀ (i : Nat) (v : Value), us[i]? = some v → ∃ x t, xs[i]? = some x ∧ v = .str x t := by
  induction h with
  | nil => intro i v e; simp at e
  | cons n t hr ih =>
    intro i v e
    cases i with
    | zero => simp at e; exact ⟨n, t, rfl, e.symm⟩
    | succ i => exact ih i v (by simpa using e)
theorem strs_len {us : List Value} {xs : List Str} (h : StrsAre us xs) : us.length = xs.length := by
  induction h with
  | nil => rfl
  | cons n t hr ih => rw [List.length_cons, List.length_cons, ih]

/-- what stands behind set(l) -/
def SetBack (prog : Program) (w : World) (s : Shared) (ks : List Str) (s2 : Shared) : Prop := ∃ (h' : Heap) (tk : Nat), s2 = { s with heap := h', toks := tk } ∧ h'.SetOf (strKind prog w) s.heap.objs.size (fun k => decide (k ∈ ks)) (dd ks).length ∧
  ∀ b o, b < s.heap.objs.size → s.heap.get? b = some o → h'.get? b = some o
theorem set_filled {l : Addr} {items : Array Value} {ks : List Str} {led : Bool} {Q : Value → Shared → Prop} (hh : A.handled = none) (hl : s.heap.IsList l items) (hi : StrsAre items.toList ks) (room : items.size + 1 < scanBound)
    (fin : ∀ s2, SetBack prog w s ks s2 → Q .none s2) :
    codeAny (model prog w) A (.builtin "set.update.loop" ⟨[.ref s.heap.objs.size, .ref (s.heap.objs.size + 1)], []⟩) (wants Q E) { s with heap := (s.heap.push (newSetO led)).push { cls := .type "list_iterator", data := .fields #[.ref l, .int 0 0] } } := by
  obtain ⟨ol, hol, cl, nl, dl⟩ := id hl
  have lt : l < s.heap.objs.size := Heap.lt_size hol
  have e1 : (s.heap.push (newSetO led)).objs.size = s.heap.objs.size + 1 := Heap.size_push ..
  have hl1 : (s.heap.push (newSetO led)).IsList l items := ⟨ol, Heap.get?_push_of_some _ hol, cl, nl, dl⟩
  have n1 : l ≠ s.heap.objs.size + 1 := Nat.ne_of_lt (Nat.lt_succ_of_lt lt)
  have n2 : s.heap.objs.size ∉ [s.heap.objs.size + 1, l] := by
    intro q
    rcases List.mem_cons.mp q with q | q
    · exact absurd q (Nat.ne_of_lt (Nat.lt_succ_self _))
    · exact absurd (List.mem_singleton.mp q) (Nat.ne_of_gt lt)
  have hlen : ks.length = items.size := by rw [← strs_len hi]; simp
  have isk : ∀ (i : Nat) (v : Value), items[i]? = some v → ∃ x t, ks[i]? = some x ∧ v = .str x t := fun i v q => strs_is hi i v (by rw [Array.getElem?_toList]; exact q)
  have i0 : ((s.heap.push (newSetO led)).push { cls := .type "list_iterator", data := .fields #[.ref l, .int 0 0] }).IsListIter (s.heap.objs.size + 1) l 0 := ⟨_, by rw [← e1]; exact Heap.get?_push_size _ rfl, rfl, rfl⟩
  refine set_texts_loop ((Walks.list (A := A.in1) (show A.in1.handled = none from hh) (s.heap.objs.size + 1) l n1 items).toS) s.heap.objs.size n2 ks hlen isk room (items.size - 0) 0 _ (by omega) (Nat.zero_le _) ⟨i0, hl1.push _⟩ ?_ fun s2 mv hz => ?_
  · have hg : ((s.heap.push (newSetO led)).push { cls := .type "list_iterator", data := .fields #[.ref l, .int 0 0] }).get? s.heap.objs.size = some (newSetO led) := Heap.get?_push_of_some _ (Heap.get?_push_size _ rfl)
    exact SetOf_congr ((setObjOf_fresh (knd := strKind prog w) led).setOf hg (by unfold scanBound; omega)) (fun _ => by simp) rfl
  · obtain ⟨h2, g2, d2, tk2, os2⟩ := s2
    have eg : g2 = s.gens := mv.gens
    have ed : d2 = s.drawn := mv.drawn
    have eo : os2 = s.os := mv.os
    subst eg ed eo
    refine fin _ ⟨h2, tk2, rfl, hz, fun b o q e => mv.heap b o ?_ (Heap.get?_push_of_some _ (Heap.get?_push_of_some _ e))⟩
    intro m
    rcases List.mem_cons.mp m with m | m
    · exact absurd m (Nat.ne_of_lt q)
    · exact absurd (List.mem_singleton.mp m) (Nat.ne_of_lt (Nat.lt_succ_of_lt q))
theorem set_init_texts {l : Addr} {items : Array Value} {ks : List Str} {led : Bool} (hh : A.handled = none) (hl : s.heap.IsList l items) (hi : StrsAre items.toList ks) (room : items.size + 1 < scanBound) :
    codeAny (model prog w) A (.call (.builtin "set.__init__") ⟨[.ref s.heap.objs.size, .ref l], []⟩) (wants (fun r s2 => r = .none ∧ SetBack prog w s ks s2) E) { s with heap := s.heap.push (newSetO led) } := by
  have hS : (s.heap.push (newSetO led)).get? s.heap.objs.size = some (newSetO led) := Heap.get?_push_size _ rfl
  have hT : Shared.TypeIs { s with heap := s.heap.push (newSetO led) } (.ref s.heap.objs.size) "set" := ⟨_, hS, rfl⟩
  refine codeAny_call_builtin PySem.F.called_set.init.plain PySem.F.entry_set_init (check_set_init_1 hT ?_)
  obtain ⟨⟨oc, od, odt, osl⟩, hol, cl, nl, dl⟩ := id hl
  simp only at cl dl
  subst cl dl
  have hol' : (s.heap.push (newSetO led)).get? l = some ⟨.type "list", od, .seq items nl, osl⟩ := Heap.get?_push_of_some _ hol
  have t1 := PySem.F.sub_list_set
  have t2 := PySem.F.sub_list_frozenset
  have t3 : (Value.type "list" == Value.type "dict") = false := by decide
  have hl1 : (s.heap.push (newSetO led)).IsList l items := ⟨_, hol', rfl, nl, rfl⟩
  unfold Builtin.«set.__init__» noKeywords Builtin.Frozenset.updateFrom
  generalize hPI : pyIter = PI
  wp_walk
  subst hPI
  refine wpAny_pyIter_list hl1 (wpAny_bind (wpAny_runValue ?_))
  have e1 : (s.heap.push (newSetO led)).objs.size = s.heap.objs.size + 1 := Heap.size_push ..
  rw [e1]
  refine set_filled (led := led) hh hl hi room fun s2 z => ?_
  obtain ⟨h2, tk2, rfl, _⟩ := id z
  refine wpAny_pure ?_
  exact wpAny_pure ⟨rfl, z⟩
theorem call_set_texts {l : Addr} {items : Array Value} {ks : List Str} {Q : Value → Shared → Prop} (hh : A.handled = none) (hl : s.heap.IsList l items) (hi : StrsAre items.toList ks) (room : items.size + 1 < scanBound)
    (fin : ∀ s2, SetBack prog w s ks s2 → Q (.ref s.heap.objs.size) s2) : wpAny (model prog w) A (call (.type "set") [.ref l]) Q E s := by
  obtain ⟨c, tl, hmro⟩ := PySem.F.called_set.mro
  have m1 := PySem.F.called_set.made
  have m2 := PySem.F.called_set.sub
  refine wpAny_call (codeAny_of_tree ?_)
  show wpAny _ _ (callAny (.type "set") _) _ _ _
  refine wpAny_pure ⟨Code.quiet_builtin _ (by decide +kernel), codeAny_builtin PySem.F.entry_type_call ?_⟩
  rw [Around.under_plain (weight_type_call_type "set" [.ref l] []) rfl]
  have m3 := PySem.F.called_set.notType
  have m4 := PySem.F.called_set.canCreate
  have m5 := PySem.F.typeCall_set_1 (.ref l)
  repeat (any_goals (first | assumption | wp_step))
  refine codeAny_mono (code_set_new_1 (.ref l) (E := E) (Q₁ := fun obj s1 => ∃ led : Bool, obj = .ref s.heap.objs.size ∧ s1 = { s with heap := s.heap.push (newSetO led) }) fun led => ⟨led, rfl, rfl⟩) fun r s1 hr => ?_
  cases r with
  | error e => exact hr
  | ok fl =>
    cases fl with
    | ret obj =>
      obtain ⟨led, rfl, rfl⟩ := hr
      have hT : Shared.TypeIs { s with heap := s.heap.push (newSetO led) } (.ref s.heap.objs.size) "set" := ⟨_, Heap.get?_push_size _ rfl, rfl⟩
      have m6 := PySem.F.called_set.init.lookup
      have m7 := PySem.F.called_set.init.bind (.ref s.heap.objs.size)
      repeat (any_goals (first | assumption | wp_step))
      refine codeAny_mono (set_init_texts (E := E) (led := led) (s := s) (by first | exact hh | simp [hh]) hl hi room) fun r2 s2 hr2 => ?_
      cases r2 with
      | error e => exact hr2
      | ok fl2 =>
        cases fl2 with
        | ret r =>
          obtain ⟨rfl, z⟩ := hr2
          have f := fin s2 z
          obtain ⟨h2, tk2, rfl, z⟩ := z
          repeat (any_goals (first | assumption | wp_step))
        | _ => exact hr2.elim
    | _ => exact hr.elim
end

/-- len(set(xs)) -/
def tLenSetS (K : PySem.W.Frag) (ta : TE) : TE := fun σ H Q => ta σ H fun x H1 => ∃ (l : Addr) (xs : List Str), x = .ref l ∧ SqL K H1 l (xs.map V.str) ∧ xs.length ≤ 4000 ∧ Q (.int ((dd xs).length : Nat)) H1
theorem pe_lenSetS {X : Cx} {a : Expr} {ta : TE} {p p2 q pos : Pos} (hg : Gl X "len") (hm : X.mg "len" = none) (hg2 : Gl X "set") (hm2 : X.mg "set" = none) (ha : PE X a ta) (hc : X.calm = true := by rfl)
    (na : starEach [a] X.env = (false, eval a X.env) :: starEach [] X.env := by rfl) : PE X (.Call (.Name "len" p) [.Call (.Name "set" p2) [a] [] q] [] pos) (tLenSetS X.K ta) := by
  refine ⟨fun pins s σ H Q I h => ?_⟩
  refine Call_ (ld_blt I hg hm boot_len (PyProof.Rows.callWith_builtin1 (PyProof.Rows.args_cons ?_ rfl) rfl rfl))
  refine Call_ (ld_blt I hg2 hm2 boot_set (PyProof.Rows.callWith_type1 (PyProof.Rows.args_cons (thn (ha.run pins s σ H _ I h) fun v s1 ⟨x, H1, I1, r1, q1⟩ => PyProof.Rows.args_nil ?_) na) na rfl))
  obtain ⟨l, xs, rfl, hq, h4, q1⟩ := q1
  cases r1
  obtain ⟨its, r, pl, hz⟩ := I1.list hq
  have hi : StrsAre its xs := strsAre_of r
  have hsz : its.toArray.size = xs.length := by rw [List.size_toArray, strs_len hi]
  refine call_set_texts (I1.ok.hd hc) pl.isList (by simpa using hi) (by rw [hsz]; unfold scanBound; omega) fun s2 z => PyProof.Rows.args_nil ?_
  obtain ⟨h2, tk2, rfl, hS, hk⟩ := z
  obtain ⟨o, es, ep, t, ho, hex, hd, _, _, _, hf, hn⟩ := hS
  have I2 : L2.Inv X pins σ H1 { s1 with heap := h2, toks := tk2 } := I1.kept fun b o e => hk b o (Heap.lt_size e) e
  have h5 := dd_le xs
  exact call_len_set ho hex hd hf (by rw [hn]; omega) ⟨.int ((dd xs).length : Nat), H1, I2.tok _, ⟨_, by rw [hn]⟩, q1⟩
end Five
end
section
set_option autoImplicit false
namespace Five
/-! plain mathematics: rounds, faces, pieces -/
section
variable {α : Type} [DecidableEq α]
/-- who stands next behind x in a round -/
def nx (l : List α) (x : α) : α := ((l.dropWhile (fun y => decide (y ≠ x))).tail ++ l).headD x
theorem dropWhile_app {A B : List α} {x : α} (h : x ∉ A) : (A ++ x :: B).dropWhile (fun y => decide (y ≠ x)) = x :: B := by
  induction A with
  | nil => simp [List.dropWhile_cons]
  | cons a r ih =>
    have ha : a ≠ x := fun e => h (by rw [e]; exact List.mem_cons_self)
    rw [List.cons_append, List.dropWhile_cons, if_pos (by simpa using ha)]
    exact ih fun hm => h (List.mem_cons_of_mem _ hm)
theorem nx_app {A B : List α} {x : α} (h : x ∉ A) : nx (A ++ x :: B) x = (B ++ (A ++ [x])).headD x := by
  unfold nx
  rw [dropWhile_app h]
  cases B with
  | nil => cases A <;> simp
  | cons b r => simp
theorem mem_split {l : List α} {x : α} (h : x ∈ l) : ∃ A B, l = A ++ x :: B ∧ x ∉ A := by
  induction l with
  | nil => exact nomatch h
  | cons a r ih =>
    by_cases e : a = x
    · exact ⟨[], r, by rw [e]; rfl, by simp⟩
    · have hm : x ∈ r := by
        rcases List.mem_cons.mp h with q | q
        · exact absurd q.symm e
        · exact q
      obtain ⟨A, B, e1, e2⟩ := ih hm
      refine ⟨a :: A, B, by rw [e1]; rfl, ?_⟩
      intro q
      rcases List.mem_cons.mp q with q | q
      · exact e q.symm
      · exact e2 q
theorem headD_mem {l : List α} {x : α} (h : l ≠ []) : l.headD x ∈ l := by
  cases l with
  | nil => exact absurd rfl h
  | cons a r => simp
theorem nx_mem {l : List α} {x : α} (h : x ∈ l) : nx l x ∈ l := by
  obtain ⟨A, B, rfl, hA⟩ := mem_split h
  rw [nx_app hA]
  have := headD_mem (l := B ++ (A ++ [x])) (x := x) (by simp)
  rcases List.mem_append.mp this with q | q
  · exact List.mem_append_right _ (List.mem_cons_of_mem _ q)
  · rcases List.mem_append.mp q with q | q
    · exact List.mem_append_left _ q
    · rw [List.mem_singleton.mp q]; simp
theorem nx_rot {L M : List α} {x : α} (hn : (L ++ M).Nodup) (h : x ∈ L ++ M) : nx (M ++ L) x = nx (L ++ M) x := by
  have key : ∀ (L M : List α), (L ++ M).Nodup → x ∈ L → nx (M ++ L) x = nx (L ++ M) x := by
    intro L M hn h
    obtain ⟨A, B, rfl, hA⟩ := mem_split h
    have hxM : x ∉ M := fun q => (List.nodup_append.mp hn).2.2 x (by simp) x q rfl
    rw [show (A ++ x :: B) ++ M = A ++ x :: (B ++ M) by simp, nx_app hA]
    rw [show M ++ (A ++ x :: B) = (M ++ A) ++ x :: B by simp, nx_app (by simp [hxM, hA])]
    cases B <;> simp
  rcases List.mem_append.mp h with q | q
  · exact key L M hn q
  · refine (key M L ?_ q).symm
    exact (List.perm_append_comm.nodup_iff).mp hn
theorem nx_map {β : Type} [DecidableEq β] {g : α → β} {l : List α} {x : α} (h : x ∈ l) (hg : ∀ y ∈ l, g y = g x → y = x) : nx (l.map g) (g x) = g (nx l x) := by
  obtain ⟨A, B, rfl, hA⟩ := mem_split h
  rw [nx_app hA, List.map_append, List.map_cons, nx_app]
  · have e : B.map g ++ (A.map g ++ [g x]) = (B ++ (A ++ [x])).map g := by simp
    rw [e]
    cases hh : B ++ (A ++ [x]) with
    | nil => simp at hh
    | cons a r => rfl
  · intro q
    obtain ⟨y, hy, e⟩ := List.mem_map.mp q
    have := hg y (by simp [hy]) e
    rw [this] at hy
    exact hA hy
/-- k put in behind z -/
theorem nx_ins {A B : List α} {z k : α} (hn : (A ++ z :: B).Nodup) (hk : k ∉ A ++ z :: B) :
    nx (A ++ z :: k :: B) z = k ∧ nx (A ++ z :: k :: B) k = nx (A ++ z :: B) z ∧ ∀ x ∈ A ++ z :: B, x ≠ z → nx (A ++ z :: k :: B) x = nx (A ++ z :: B) x := by
  have hz : z ∉ A := fun q => (List.nodup_append.mp hn).2.2 z q z (by simp) rfl
  have hkA : k ∉ A := fun q => hk (by simp [q])
  have hkz : k ≠ z := fun q => hk (by simp [q])
  refine ⟨?_, ?_, fun x hx hxz => ?_⟩
  · rw [nx_app hz]
    simp
  · rw [show A ++ z :: k :: B = (A ++ [z]) ++ k :: B by simp, nx_app (by simp [hkA, hkz]), nx_app hz]
    cases B with
    | nil => cases A <;> simp
    | cons b r => simp
  · rcases List.mem_append.mp hx with q | q
    · obtain ⟨C, D, rfl, hC⟩ := mem_split q
      rw [show (C ++ x :: D) ++ z :: k :: B = C ++ x :: (D ++ z :: k :: B) by simp, nx_app hC, show (C ++ x :: D) ++ z :: B = C ++ x :: (D ++ z :: B) by simp, nx_app hC]
      cases D <;> simp
    · have q : x ∈ B := by
        rcases List.mem_cons.mp q with e | q
        · exact absurd e hxz
        · exact q
      have hxA : x ∉ A := fun w => (List.nodup_append.mp hn).2.2 x w x (by simp [q]) rfl
      have hxk : x ≠ k := fun e => hk (by rw [← e]; simp [q])
      obtain ⟨C, D, rfl, hC⟩ := mem_split q
      rw [show A ++ z :: k :: (C ++ x :: D) = (A ++ z :: k :: C) ++ x :: D by simp, nx_app (by simp [hxA, hxz, hxk, hC]), show A ++ z :: (C ++ x :: D) = (A ++ z :: C) ++ x :: D by simp, nx_app (by simp [hxA, hxz, hC])]
      cases D with
      | nil => cases A <;> simp
      | cons b r => simp
/-- k put in anywhere: behind some z -/
theorem nx_insert {P S : List α} {k : α} (hn : (P ++ S).Nodup) (hk : k ∉ P ++ S) (hne : P ++ S ≠ []) :
    ∃ z ∈ P ++ S, nx (P ++ k :: S) z = k ∧ nx (P ++ k :: S) k = nx (P ++ S) z ∧ ∀ x ∈ P ++ S, x ≠ z → nx (P ++ k :: S) x = nx (P ++ S) x := by
  by_cases hP : P = []
  · subst hP
    have hS : S ≠ [] := by simpa using hne
    obtain ⟨S', z, rfl⟩ : ∃ S' z, S = S' ++ [z] := ⟨S.dropLast, S.getLast hS, (List.dropLast_concat_getLast hS).symm⟩
    have hn' : (S' ++ z :: []).Nodup := by simpa using hn
    have hk' : k ∉ S' ++ z :: [] := by simpa using hk
    obtain ⟨h1, h2, h3⟩ := nx_ins hn' hk'
    have hn2 : (([k] : List α) ++ (S' ++ [z])).Nodup := by
      rw [List.singleton_append, List.nodup_cons]
      exact ⟨by simpa using hk, by simpa using hn⟩
    have rot : ∀ x, x ∈ k :: (S' ++ [z]) → nx ([] ++ k :: (S' ++ [z])) x = nx (S' ++ z :: [k]) x := by
      intro x hx
      have := nx_rot (x := x) hn2 (by simpa using hx)
      rw [show (S' ++ z :: [k]) = (S' ++ [z]) ++ [k] by simp, this]
      rfl
    refine ⟨z, by simp, ?_, ?_, fun x hx hxz => ?_⟩
    · rw [rot z (by simp), h1]
    · rw [rot k (by simp), h2]; rfl
    · rw [rot x (List.mem_cons_of_mem _ (by simpa using hx)), h3 x (by simpa using hx) hxz]; rfl
  · obtain ⟨P', z, rfl⟩ : ∃ P' z, P = P' ++ [z] := ⟨P.dropLast, P.getLast hP, (List.dropLast_concat_getLast hP).symm⟩
    have e1 : (P' ++ [z]) ++ S = P' ++ z :: S := by simp
    have e2 : (P' ++ [z]) ++ k :: S = P' ++ z :: k :: S := by simp
    rw [e1] at hn hk
    obtain ⟨h1, h2, h3⟩ := nx_ins hn hk
    rw [e1, e2]
    exact ⟨z, by simp, h1, h2, h3⟩
end
/-! ### ways of a function, and its cycles -/
section
variable {β : Type}
def Path (f : β → β) : β → List β → β → Prop
  | s, [], e => f s = e
  | s, t :: r, e => f s = t ∧ Path f t r e
def Cyc (f : β → β) : List β → Prop
  | [] => False
  | s :: r => Path f s r s
theorem path_app {f : β → β} : ∀ {s t e : β} {r1 r2 : List β}, Path f s (r1 ++ t :: r2) e ↔ Path f s r1 t ∧ Path f t r2 e
  | s, t, e, [], r2 => by simp [Path]
  | s, t, e, a :: r1, r2 => by
    simp only [List.cons_append, Path]
    rw [path_app (s := a)]
    exact ⟨fun ⟨h1, h2, h3⟩ => ⟨⟨h1, h2⟩, h3⟩, fun ⟨⟨h1, h2⟩, h3⟩ => ⟨h1, h2, h3⟩⟩
theorem path_congr {f g : β → β} : ∀ {s e : β} {r : List β}, (∀ x ∈ s :: r, f x = g x) → Path f s r e → Path g s r e
  | s, e, [], h, p => by
    have p : f s = e := p
    show g s = e
    rw [← h s (by simp)]
    exact p
  | s, e, a :: r, h, p => by
    obtain ⟨p1, p2⟩ := p
    refine ⟨?_, path_congr (fun x hx => h x (List.mem_cons_of_mem _ hx)) p2⟩
    rw [← h s (by simp)]
    exact p1
theorem cyc_rot {f : β → β} {A B : List β} (h : Cyc f (A ++ B)) : Cyc f (B ++ A) := by
  cases A with
  | nil => simpa using h
  | cons a A =>
    cases B with
    | nil => simpa using h
    | cons b B =>
      have h : Path f a (A ++ b :: B) a := h
      show Path f b (B ++ a :: A) b
      rw [path_app] at h ⊢
      exact ⟨h.2, h.1⟩
theorem path_mem {f : β → β} : ∀ {s e : β} {r : List β}, Path f s r e → ∀ x ∈ s :: r, f x = e ∨ f x ∈ r
  | s, e, [], p, x, hx => by
    have e1 : x = s := by simpa using hx
    rw [e1]
    exact .inl p
  | s, e, a :: r, p, x, hx => by
    rcases List.mem_cons.mp hx with e1 | hx
    · rw [e1, p.1]
      exact .inr (by simp)
    · rcases path_mem p.2 x hx with q | q
      · exact .inl q
      · exact .inr (List.mem_cons_of_mem _ q)
theorem cyc_step {f : β → β} {c : List β} (h : Cyc f c) {x : β} (hx : x ∈ c) : f x ∈ c := by
  cases c with
  | nil => exact nomatch hx
  | cons s r =>
    rcases path_mem (show Path f s r s from h) x hx with q | q
    · rw [q]; simp
    · exact List.mem_cons_of_mem _ q
theorem cyc_path {f : β → β} {c : List β} (h : Cyc f c) : ∀ {s e : β} {r : List β}, s ∈ c → Path f s r e → e ∈ c
  | s, e, [], hs, p => by
    have p : f s = e := p
    rw [← p]
    exact cyc_step h hs
  | s, e, a :: r, hs, p => cyc_path h (by rw [← p.1]; exact cyc_step h hs) p.2
theorem cyc_congr {f g : β → β} {c : List β} (h : ∀ x ∈ c, f x = g x) (p : Cyc f c) : Cyc g c := by
  cases c with
  | nil => exact p
  | cons s r => exact path_congr h p
theorem cyc_ne {f : β → β} {c : List β} (h : Cyc f c) : c ≠ [] := by
  intro e
  rw [e] at h
  exact h
theorem path_map {γ : Type} {f : β → β} {f' : γ → γ} {g : β → γ} : ∀ {s e : β} {r : List β}, (∀ x ∈ s :: r, f' (g x) = g (f x)) → Path f s r e → Path f' (g s) (r.map g) (g e)
  | s, e, [], h, p => by
    show f' (g s) = g e
    rw [h s (by simp), show f s = e from p]
  | s, e, a :: r, h, p => by
    refine ⟨?_, path_map (fun x hx => h x (List.mem_cons_of_mem _ hx)) p.2⟩
    rw [h s (by simp), p.1]
theorem cyc_map {γ : Type} {f : β → β} {f' : γ → γ} {g : β → γ} {c : List β} (h : ∀ x ∈ c, f' (g x) = g (f x)) (p : Cyc f c) : Cyc f' (c.map g) := by
  cases c with
  | nil => exact p
  | cons s r => exact path_map h p
end
/-! ### webs -/
section
variable {α : Type} [DecidableEq α]
def fs (rd : α → List α) (s : α × α) : α × α := (s.2, nx (rd s.2) s.1)
def darts (vs : List α) (rd : α → List α) : List (α × α) := vs.flatMap fun v => (rd v).map fun u => (v, u)
structure Wf (vs : List α) (rd : α → List α) : Prop where
  nd : vs.Nodup
  rn : ∀ v ∈ vs, (rd v).Nodup
  ties : ∀ v ∈ vs, ∀ u ∈ rd v, u ∈ vs ∧ u ≠ v ∧ v ∈ rd u
/-- the parts of a list of ways that touch places of c -/
def nfc (cs : List (List (α × α))) (c : List α) : Nat := cs.countP fun f => f.any fun s => decide (s.1 ∈ c)
def nlone (rd : α → List α) (c : List α) : Nat := c.countP fun v => (rd v).isEmpty
def deg (rd : α → List α) (c : List α) : Nat := (c.map fun v => (rd v).length).sum
structure FD (vs : List α) (rd : α → List α) (cs : List (List (α × α))) : Prop where
  perm : cs.flatten.Perm (darts vs rd)
  cyc : ∀ c ∈ cs, Cyc (fs rd) c
structure CD (vs : List α) (rd : α → List α) (ps : List (List α)) : Prop where
  perm : ps.flatten.Perm vs
  shut : ∀ c ∈ ps, ∀ v ∈ c, ∀ u ∈ rd v, u ∈ c
  conn : ∀ c ∈ ps, c ≠ [] ∧ ∀ S : α → Prop, (∀ v u, v ∈ c → S v → u ∈ rd v → S u) → ∀ v ∈ c, S v → ∀ u ∈ c, S u
def Flat (vs : List α) (rd : α → List α) : Prop := ∃ cs ps, FD vs rd cs ∧ CD vs rd ps ∧ ∀ c ∈ ps, 2 * c.length + 2 * (nfc cs c + nlone rd c) = deg rd c + 4
structure Pl (vs : List α) (rd : α → List α) : Prop where
  wf : Wf vs rd
  flat : Flat vs rd
theorem mem_darts {vs : List α} {rd : α → List α} {s : α × α} : s ∈ darts vs rd ↔ s.1 ∈ vs ∧ s.2 ∈ rd s.1 := by
  unfold darts
  rw [List.mem_flatMap]
  constructor
  · rintro ⟨v, hv, h⟩
    obtain ⟨u, hu, rfl⟩ := List.mem_map.mp h
    exact ⟨hv, hu⟩
  · rintro ⟨h1, h2⟩
    exact ⟨s.1, h1, List.mem_map.mpr ⟨s.2, h2, rfl⟩⟩
theorem Wf.fs_mem {vs : List α} {rd : α → List α} (w : Wf vs rd) {s : α × α} (h : s ∈ darts vs rd) : fs rd s ∈ darts vs rd := by
  rw [mem_darts] at h ⊢
  obtain ⟨h1, h2, h3⟩ := w.ties s.1 h.1 s.2 h.2
  exact ⟨h1, nx_mem h3⟩
theorem darts_nodup {rd : α → List α} : ∀ {vs : List α}, vs.Nodup → (∀ v ∈ vs, (rd v).Nodup) → (darts vs rd).Nodup
  | [], _, _ => by simp [darts]
  | v :: r, hn, hr => by
    show ((rd v).map (fun u => (v, u)) ++ darts r rd).Nodup
    obtain ⟨h1, h2⟩ := List.nodup_cons.mp hn
    refine List.nodup_append.mpr ⟨?_, darts_nodup h2 fun u hu => hr u (List.mem_cons_of_mem _ hu), fun a ha b hb e => ?_⟩
    · refine List.Pairwise.map _ (fun a b hab e => hab ?_) (hr v (by simp))
      exact (Prod.mk.inj e).2
    · obtain ⟨u, _, rfl⟩ := List.mem_map.mp ha
      rw [← e, mem_darts] at hb
      exact h1 hb.1
end
end Five
end
section
set_option autoImplicit false
namespace Five
section
variable {α : Type} [DecidableEq α]
theorem path_first {β : Type} {f f' : β → β} {s s' e : β} {r : List β} (h0 : f' s' = f s) (h : ∀ x ∈ r, f x = f' x) (p : Path f s r e) : Path f' s' r e := by
  cases r with
  | nil =>
    show f' s' = e
    rw [h0]
    exact p
  | cons t r =>
    refine ⟨by rw [h0]; exact p.1, path_congr h p.2⟩
theorem perm_head {β : Type} [DecidableEq β] {l : List β} {x : β} (h : x ∈ l) : ∃ r, l.Perm (x :: r) := by
  obtain ⟨A, B, rfl, _⟩ := mem_split h
  exact ⟨A ++ B, List.perm_middle⟩
theorem darts_congr {vs : List α} {rd rd' : α → List α} (h : ∀ v ∈ vs, rd' v = rd v) : darts vs rd' = darts vs rd := by
  unfold darts
  induction vs with
  | nil => rfl
  | cons v r ih =>
    rw [List.flatMap_cons, List.flatMap_cons, h v (by simp), ih fun u hu => h u (List.mem_cons_of_mem _ hu)]
theorem darts_app {vs ws : List α} {rd : α → List α} : darts (vs ++ ws) rd = darts vs rd ++ darts ws rd := by
  unfold darts
  rw [List.flatMap_append]
theorem darts_ins {vs : List α} {rd rd' : α → List α} {o k : α} (hn : vs.Nodup) (ho : o ∈ vs) (h1 : (rd' o).Perm (k :: rd o)) (h2 : ∀ v ∈ vs, v ≠ o → rd' v = rd v) : (darts vs rd').Perm ((o, k) :: darts vs rd) := by
  obtain ⟨A, B, rfl, hA⟩ := mem_split ho
  have hB : o ∉ B := fun q => by
    have := (List.nodup_append.mp hn).2.1
    exact (List.nodup_cons.mp this).1 q
  have eA : darts A rd' = darts A rd := darts_congr fun v hv => h2 v (by simp [hv]) fun e => hA (by rw [← e]; exact hv)
  have eB : darts B rd' = darts B rd := darts_congr fun v hv => h2 v (by simp [hv]) fun e => hB (by rw [← e]; exact hv)
  rw [darts_app, darts_app, eA]
  have eo : ∀ r : α → List α, darts (o :: B) r = (r o).map (fun u => (o, u)) ++ darts B r := fun r => rfl
  rw [eo, eo, eB]
  have p1 : ((rd' o).map (fun u => (o, u))).Perm ((o, k) :: (rd o).map (fun u => (o, u))) := by
    have := h1.map (fun u => (o, u))
    simpa using this
  refine (List.Perm.append_left _ (List.Perm.append_right _ p1)).trans ?_
  exact List.perm_middle
theorem fd_in {vs : List α} {rd : α → List α} {cs : List (List (α × α))} (h : FD vs rd cs) {c : List (α × α)} (hc : c ∈ cs) {s : α × α} (hs : s ∈ c) : s ∈ darts vs rd :=
  h.perm.mem_iff.mp (List.mem_flatten.mpr ⟨c, hc, hs⟩)
theorem fd_find {vs : List α} {rd : α → List α} {cs : List (List (α × α))} (h : FD vs rd cs) {s : α × α} (hs : s ∈ darts vs rd) : ∃ c ∈ cs, s ∈ c := by
  obtain ⟨c, h1, h2⟩ := List.mem_flatten.mp (h.perm.mem_iff.mpr hs)
  exact ⟨c, h1, h2⟩
theorem nfc_perm {cs cs' : List (List (α × α))} (h : cs.Perm cs') (c : List α) : nfc cs c = nfc cs' c := h.countP_eq _
/-- one way may be turned to begin with any of its steps, and stand first -/
theorem fd_turn {vs : List α} {rd : α → List α} {cs : List (List (α × α))} (h : FD vs rd cs) {s : α × α} (hs : s ∈ darts vs rd) :
    ∃ T rest, FD vs rd ((s :: T) :: rest) ∧ ∀ c, nfc ((s :: T) :: rest) c = nfc cs c := by
  obtain ⟨c, hc, hsc⟩ := fd_find h hs
  obtain ⟨rest, hp⟩ := perm_head hc
  obtain ⟨X, Y, rfl, _⟩ := mem_split hsc
  refine ⟨Y ++ X, rest, ⟨?_, fun d hd => ?_⟩, fun d => ?_⟩
  · have h1 : ((s :: (Y ++ X)) :: rest).flatten.Perm ((X ++ s :: Y) :: rest).flatten := by
      rw [List.flatten_cons, List.flatten_cons]
      refine List.Perm.append_right _ ?_
      have := List.perm_append_comm (l₁ := X) (l₂ := s :: Y)
      exact this.symm
    exact (h1.trans hp.symm.flatten).trans h.perm
  · rcases List.mem_cons.mp hd with e | hd
    · rw [e]
      exact cyc_rot (A := X) (B := s :: Y) (h.cyc _ hc)
    · exact h.cyc d (hp.mem_iff.mpr (List.mem_cons_of_mem _ hd))
  · rw [nfc_perm hp d]
    unfold nfc
    rw [List.countP_cons, List.countP_cons]
    have e : ((s :: (Y ++ X)).any fun s => decide (s.1 ∈ d)) = ((X ++ s :: Y).any fun s => decide (s.1 ∈ d)) := by
      simp only [List.any_cons, List.any_append]
      cases (X.any fun s => decide (s.1 ∈ d)) <;> cases (Y.any fun s => decide (s.1 ∈ d)) <;> cases (decide (s.1 ∈ d)) <;> rfl
    rw [e]
/-- a way of steps within a piece -/
theorem path_shut {vs : List α} {rd : α → List α} {c : List α} (hsh : ∀ v ∈ c, ∀ u ∈ rd v, u ∈ c) : ∀ {s e : α × α} {r : List (α × α)}, (∀ x ∈ s :: r, x ∈ darts vs rd) → s.1 ∈ c → Path (fs rd) s r e → (∀ x ∈ s :: r, x.1 ∈ c) ∧ e.1 ∈ c
  | s, e, [], hd, hs, p => by
    have p : fs rd s = e := p
    have h2 := (mem_darts.mp (hd s (by simp))).2
    refine ⟨fun x hx => ?_, ?_⟩
    · have : x = s := by simpa using hx
      rw [this]; exact hs
    · rw [← p]
      exact hsh s.1 hs s.2 h2
  | s, e, a :: r, hd, hs, p => by
    have h2 := (mem_darts.mp (hd s (by simp))).2
    have ha : a.1 ∈ c := by
      rw [← p.1]
      exact hsh s.1 hs s.2 h2
    obtain ⟨h3, h4⟩ := path_shut (vs := vs) hsh (fun x hx => hd x (List.mem_cons_of_mem _ hx)) ha p.2
    refine ⟨fun x hx => ?_, h4⟩
    rcases List.mem_cons.mp hx with q | q
    · rw [q]; exact hs
    · exact h3 x q
theorem cyc_shut {vs : List α} {rd : α → List α} {c : List α} (hsh : ∀ v ∈ c, ∀ u ∈ rd v, u ∈ c) {w : List (α × α)} (hd : ∀ x ∈ w, x ∈ darts vs rd) (hw : Cyc (fs rd) w) {s : α × α} (hs : s ∈ w) (h1 : s.1 ∈ c) : ∀ x ∈ w, x.1 ∈ c := by
  obtain ⟨X, Y, rfl, _⟩ := mem_split hs
  have h := cyc_rot (A := X) (B := s :: Y) hw
  obtain ⟨h3, _⟩ := path_shut (vs := vs) (s := s) (e := s) (r := Y ++ X) hsh (fun x hx => hd x (by simp at hx ⊢; rcases hx with q | q | q <;> simp [q])) h1 h
  intro x hx
  exact h3 x (by simp at hx ⊢; rcases hx with q | q | q <;> simp [q])
theorem nodup_flatten_apart {β : Type} {c d : List β} {rest : List (List β)} (h : (c :: rest).flatten.Nodup) (hd : d ∈ rest) {x : β} (hx : x ∈ c) : x ∉ d := by
  rw [List.flatten_cons] at h
  intro q
  exact (List.nodup_append.mp h).2.2 x hx x (List.mem_flatten.mpr ⟨d, hd, q⟩) rfl
theorem deg_congr {rd rd' : α → List α} {c : List α} (h : ∀ v ∈ c, rd' v = rd v) : deg rd' c = deg rd c := by
  unfold deg
  rw [List.map_congr_left fun v hv => by rw [h v hv]]
theorem nlone_congr {rd rd' : α → List α} {c : List α} (h : ∀ v ∈ c, rd' v = rd v) : nlone rd' c = nlone rd c := by
  unfold nlone
  exact List.countP_congr fun v hv => by rw [h v hv]
theorem fs_congr {rd rd' : α → List α} {s : α × α} (h : rd' s.2 = rd s.2) : fs rd' s = fs rd s := by
  unfold fs
  rw [h]
theorem nfc_out {cs : List (List (α × α))} {c : List α} (h : ∀ w ∈ cs, ∀ s ∈ w, s.1 ∉ c) : nfc cs c = 0 := by
  unfold nfc
  rw [List.countP_eq_zero]
  intro w hw
  simp only [List.any_eq_true, decide_eq_true_eq, not_exists, not_and]
  exact fun s hs => h w hw s hs
/-- a place by itself -/
theorem Pl.lone {vs : List α} {rd rd' : α → List α} {k : α} (h : Pl vs rd) (hk : k ∉ vs) (h1 : rd' k = []) (h2 : ∀ v ∈ vs, rd' v = rd v) : Pl (vs ++ [k]) rd' := by
  obtain ⟨cs, ps, F, Cd, eu⟩ := h.flat
  have hsub : ∀ c ∈ ps, ∀ v ∈ c, v ∈ vs := fun c hc v hv => Cd.perm.mem_iff.mp (List.mem_flatten.mpr ⟨c, hc, hv⟩)
  have hdk : darts (vs ++ [k]) rd' = darts vs rd := by
    rw [darts_app, darts_congr h2]
    simp [darts, h1]
  refine ⟨⟨?_, fun v hv => ?_, fun v hv u hu => ?_⟩, cs, ps ++ [[k]], ⟨?_, fun c hc => ?_⟩, ⟨?_, fun c hc v hv u hu => ?_, fun c hc => ?_⟩, fun c hc => ?_⟩
  · refine List.nodup_append.mpr ⟨h.wf.nd, by simp, fun a ha b hb e => ?_⟩
    have : b = k := by simpa using hb
    exact hk (by rw [← this, ← e]; exact ha)
  · rcases List.mem_append.mp hv with q | q
    · rw [h2 v q]; exact h.wf.rn v q
    · rw [List.mem_singleton.mp q, h1]; simp
  · rcases List.mem_append.mp hv with q | q
    · rw [h2 v q] at hu
      obtain ⟨a, b, c⟩ := h.wf.ties v q u hu
      exact ⟨by simp [a], b, by rw [h2 u a]; exact c⟩
    · rw [List.mem_singleton.mp q, h1] at hu
      exact nomatch hu
  · rw [hdk]; exact F.perm
  · refine cyc_congr (fun x hx => ?_) (F.cyc c hc)
    have := mem_darts.mp (fd_in F hc hx)
    exact (fs_congr (h2 x.2 (h.wf.ties x.1 this.1 x.2 this.2).1)).symm
  · rw [List.flatten_append]
    exact List.Perm.append_right _ Cd.perm
  · rcases List.mem_append.mp hc with q | q
    · rw [h2 v (hsub c q v hv)] at hu
      exact Cd.shut c q v hv u hu
    · have e := List.mem_singleton.mp q
      subst e
      rw [List.mem_singleton.mp hv, h1] at hu
      exact nomatch hu
  · rcases List.mem_append.mp hc with q | q
    · refine ⟨(Cd.conn c q).1, fun S hS => (Cd.conn c q).2 S fun v u hv hs hu => hS v u hv hs (by rw [h2 v (hsub c q v hv)]; exact hu)⟩
    · have e := List.mem_singleton.mp q
      subst e
      refine ⟨by simp, fun S _ v hv hs u hu => ?_⟩
      rw [List.mem_singleton.mp hu, ← List.mem_singleton.mp hv]
      exact hs
  · rcases List.mem_append.mp hc with q | q
    · rw [deg_congr fun v hv => h2 v (hsub c q v hv), nlone_congr fun v hv => h2 v (hsub c q v hv)]
      exact eu c q
    · have e := List.mem_singleton.mp q
      subst e
      have e0 : nfc cs [k] = 0 := nfc_out fun w hw s hs hm => by
        have := (mem_darts.mp (fd_in F hw hs)).1
        rw [List.mem_singleton.mp hm] at this
        exact hk this
      rw [e0]
      simp [nlone, deg, h1]
end
end Five
end
section
set_option autoImplicit false
namespace Five
section
variable {α : Type} [DecidableEq α]
theorem nfc_cons {w : List (α × α)} {cs : List (List (α × α))} {c : List α} : nfc (w :: cs) c = nfc cs c + if (w.any fun s => decide (s.1 ∈ c)) = true then 1 else 0 := by
  unfold nfc
  rw [List.countP_cons]
theorem nfc_same {cs : List (List (α × α))} {c d : List α} (h : ∀ w ∈ cs, ∀ s ∈ w, (s.1 ∈ c ↔ s.1 ∈ d)) : nfc cs c = nfc cs d := by
  unfold nfc
  refine List.countP_congr fun w hw => ?_
  simp only [List.any_eq_true, decide_eq_true_eq]
  exact ⟨fun ⟨s, a, b⟩ => ⟨s, a, (h w hw s a).mp b⟩, fun ⟨s, a, b⟩ => ⟨s, a, (h w hw s a).mpr b⟩⟩
theorem any_yes {w : List (α × α)} {c : List α} {s : α × α} (hs : s ∈ w) (h : s.1 ∈ c) : (w.any fun s => decide (s.1 ∈ c)) = true :=
  List.any_eq_true.mpr ⟨s, hs, by simpa using h⟩
theorem any_no {w : List (α × α)} {c : List α} (h : ∀ s ∈ w, s.1 ∉ c) : (w.any fun s => decide (s.1 ∈ c)) = false := by
  rw [Bool.eq_false_iff]
  intro q
  obtain ⟨s, hs, e⟩ := List.any_eq_true.mp q
  exact h s hs (by simpa using e)
theorem Pl.leaf {vs : List α} {rd rd' : α → List α} {k o : α} {P S : List α} (h : Pl vs rd) (hk : k ∉ vs) (ho : o ∈ vs) (h1 : rd' k = [o]) (h2 : rd o = P ++ S) (h3 : rd' o = P ++ k :: S) (h4 : ∀ v ∈ vs, v ≠ o → rd' v = rd v) : Pl (vs ++ [k]) rd' := by
  obtain ⟨cs, ps, F, Cd, eu⟩ := h.flat
  have hsub : ∀ c ∈ ps, ∀ v ∈ c, v ∈ vs := fun c hc v hv => Cd.perm.mem_iff.mp (List.mem_flatten.mpr ⟨c, hc, hv⟩)
  have hko : k ≠ o := fun e => hk (by rw [e]; exact ho)
  have hkr : ∀ v ∈ vs, k ∉ rd v := fun v hv q => hk (h.wf.ties v hv k q).1
  have hp3 : (rd' o).Perm (k :: rd o) := by
    rw [h3, h2]
    exact List.perm_middle
  have hmo : ∀ u, u ∈ rd' o ↔ u = k ∨ u ∈ rd o := fun u => by
    rw [hp3.mem_iff, List.mem_cons]
  -- the rounds
  have wf : Wf (vs ++ [k]) rd' := by
    refine ⟨?_, fun v hv => ?_, fun v hv u hu => ?_⟩
    · refine List.nodup_append.mpr ⟨h.wf.nd, by simp, fun a ha b hb e => ?_⟩
      have : b = k := by simpa using hb
      exact hk (by rw [← this, ← e]; exact ha)
    · rcases List.mem_append.mp hv with q | q
      · by_cases e : v = o
        · rw [e]
          refine hp3.nodup_iff.mpr (List.nodup_cons.mpr ⟨hkr o ho, h.wf.rn o ho⟩)
        · rw [h4 v q e]; exact h.wf.rn v q
      · rw [List.mem_singleton.mp q, h1]; simp
    · have old : ∀ v ∈ vs, ∀ u ∈ rd v, u ∈ vs ++ [k] ∧ u ≠ v ∧ v ∈ rd' u := fun v hv u hu => by
        obtain ⟨a, b, c⟩ := h.wf.ties v hv u hu
        refine ⟨by simp [a], b, ?_⟩
        by_cases e : u = o
        · rw [e] at c ⊢
          exact (hmo v).mpr (.inr c)
        · rw [h4 u a e]; exact c
      rcases List.mem_append.mp hv with q | q
      · by_cases e : v = o
        · rw [e] at hu ⊢
          rcases (hmo u).mp hu with e2 | hu
          · rw [e2]
            exact ⟨by simp, hko, by rw [h1]; simp⟩
          · exact old o ho u hu
        · rw [h4 v q e] at hu
          exact old v q u hu
      · rw [List.mem_singleton.mp q] at hu ⊢
        rw [h1] at hu
        rw [List.mem_singleton.mp hu]
        exact ⟨by simp [ho], fun e => hko e.symm, (hmo k).mpr (.inl rfl)⟩
  -- the pieces
  obtain ⟨c0, hc0, hoc⟩ := List.mem_flatten.mp (Cd.perm.mem_iff.mpr ho)
  obtain ⟨rest, hpr⟩ := perm_head hc0
  have hnd : (c0 :: rest).flatten.Nodup := by
    refine (hpr.flatten.nodup_iff).mp ?_
    exact Cd.perm.nodup_iff.mpr h.wf.nd
  have hin : ∀ c ∈ rest, c ∈ ps := fun c hc => hpr.mem_iff.mpr (List.mem_cons_of_mem _ hc)
  have hno : ∀ c ∈ rest, o ∉ c := fun c hc => nodup_flatten_apart hnd hc hoc
  have hrest : ∀ c ∈ rest, ∀ v ∈ c, rd' v = rd v := fun c hc v hv => h4 v (hsub c (hin c hc) v hv) fun e => hno c hc (by rw [← e]; exact hv)
  have cd : CD (vs ++ [k]) rd' ((k :: c0) :: rest) := by
    refine ⟨?_, fun c hc v hv u hu => ?_, fun c hc => ?_⟩
    · have e1 : ((k :: c0) :: rest).flatten = k :: (c0 :: rest).flatten := by simp
      rw [e1]
      have p2 : (c0 :: rest).flatten.Perm vs := hpr.symm.flatten.trans Cd.perm
      refine (p2.cons k).trans ?_
      exact (List.perm_append_comm (l₁ := [k]) (l₂ := vs))
    · rcases List.mem_cons.mp hc with e | hc
      · rw [e] at hv ⊢
        rcases List.mem_cons.mp hv with e2 | hv
        · rw [e2, h1] at hu
          rw [List.mem_singleton.mp hu]
          exact List.mem_cons_of_mem _ hoc
        · by_cases e3 : v = o
          · rw [e3] at hu
            rcases (hmo u).mp hu with e4 | hu
            · rw [e4]; exact List.mem_cons_self
            · exact List.mem_cons_of_mem _ (Cd.shut c0 hc0 o hoc u hu)
          · rw [h4 v (hsub c0 hc0 v hv) e3] at hu
            exact List.mem_cons_of_mem _ (Cd.shut c0 hc0 v hv u hu)
      · rw [hrest c hc v hv] at hu
        exact Cd.shut c (hin c hc) v hv u hu
    · rcases List.mem_cons.mp hc with e | hc
      · rw [e]
        refine ⟨by simp, fun S hS => ?_⟩
        have cl : ∀ v u, v ∈ c0 → S v → u ∈ rd v → S u := fun v u hv hs hu => hS v u (List.mem_cons_of_mem _ hv) hs (by
          by_cases e3 : v = o
          · rw [e3] at hu ⊢
            exact (hmo u).mpr (.inr hu)
          · rw [h4 v (hsub c0 hc0 v hv) e3]; exact hu)
        have all : ∀ v ∈ c0, S v → ∀ u ∈ k :: c0, S u := fun v hv hs u hu => by
          have h5 := (Cd.conn c0 hc0).2 S cl v hv hs
          rcases List.mem_cons.mp hu with e4 | hu
          · rw [e4]
            exact hS o k (List.mem_cons_of_mem _ hoc) (h5 o hoc) ((hmo k).mpr (.inl rfl))
          · exact h5 u hu
        intro v hv hs
        rcases List.mem_cons.mp hv with e4 | hv
        · rw [e4] at hs
          exact all o hoc (hS k o List.mem_cons_self hs (by rw [h1]; simp))
        · exact all v hv hs
      · refine ⟨(Cd.conn c (hin c hc)).1, fun S hS => (Cd.conn c (hin c hc)).2 S fun v u hv hs hu => hS v u hv hs (by rw [hrest c hc v hv]; exact hu)⟩
  have hdk : (darts (vs ++ [k]) rd').Perm ((o, k) :: (k, o) :: darts vs rd) := by
    rw [darts_app]
    have e1 : darts [k] rd' = [(k, o)] := by simp [darts, h1]
    rw [e1]
    refine ((darts_ins (k := k) h.wf.nd ho hp3 h4).append_right _).trans ?_
    exact (List.perm_append_comm (l₁ := darts vs rd) (l₂ := [(k, o)])).cons (o, k)
  have dart_ne : ∀ {s : α × α}, s ∈ darts vs rd → s.1 ≠ k ∧ s.2 ∈ vs ∧ s.1 ∈ rd s.2 := fun {s} hs => by
    obtain ⟨a, b⟩ := mem_darts.mp hs
    obtain ⟨c, d, e⟩ := h.wf.ties s.1 a s.2 b
    exact ⟨fun q => hk (by rw [← q]; exact a), c, e⟩
  have degk : deg rd' (k :: c0) = deg rd c0 + 2 := by
    have : ∀ c : List α, c.Nodup → o ∈ c → (∀ v ∈ c, v ∈ vs) → deg rd' c = deg rd c + 1 := by
      intro c hn hoc hs
      obtain ⟨A, B, rfl, hA⟩ := mem_split hoc
      have hB : o ∉ B := (List.nodup_cons.mp (List.nodup_append.mp hn).2.1).1
      have eA : deg rd' A = deg rd A := deg_congr fun v hv => h4 v (hs v (by simp [hv])) fun e => hA (by rw [← e]; exact hv)
      have eB : deg rd' B = deg rd B := deg_congr fun v hv => h4 v (hs v (by simp [hv])) fun e => hB (by rw [← e]; exact hv)
      have eo : (rd' o).length = (rd o).length + 1 := by rw [hp3.length_eq, List.length_cons]
      unfold deg at eA eB ⊢
      simp only [List.map_append, List.map_cons, List.sum_append, List.sum_cons, eA, eB, eo]
      omega
    have hnc : c0.Nodup := by
      rw [List.flatten_cons] at hnd
      exact (List.nodup_append.mp hnd).1
    have e1 := this c0 hnc hoc (hsub c0 hc0)
    show ((k :: c0).map fun v => (rd' v).length).sum = _
    rw [List.map_cons, List.sum_cons, h1]
    unfold deg at e1 ⊢
    simp only [List.length_singleton]
    omega
  have hnc : c0.Nodup := by
    rw [List.flatten_cons] at hnd
    exact (List.nodup_append.mp hnd).1
  -- the ways
  by_cases hemp : rd o = []
  · -- a place without ties
    have hP : P = [] ∧ S = [] := by rw [hemp] at h2; exact List.append_eq_nil_iff.mp h2.symm
    have ho' : rd' o = [k] := by rw [h3, hP.1, hP.2]; rfl
    have f1 : fs rd' (k, o) = (o, k) := by unfold fs; rw [ho']; simp [nx, List.dropWhile_cons]
    have f2 : fs rd' (o, k) = (k, o) := by unfold fs; rw [h1]; simp [nx, List.dropWhile_cons]
    refine ⟨wf, [(k, o), (o, k)] :: cs, (k :: c0) :: rest, ⟨?_, fun c hc => ?_⟩, cd, fun c hc => ?_⟩
    · refine List.Perm.trans ?_ hdk.symm
      rw [List.flatten_cons]
      refine (List.Perm.append_left _ F.perm).trans ?_
      exact List.Perm.swap (o, k) (k, o) _
    · rcases List.mem_cons.mp hc with e | hc
      · rw [e]
        exact ⟨f1, f2⟩
      · refine cyc_congr (fun x hx => ?_) (F.cyc c hc)
        obtain ⟨a, b, d⟩ := dart_ne (fd_in F hc hx)
        refine (fs_congr (h4 x.2 b fun e => ?_)).symm
        rw [e, hemp] at d
        exact nomatch d
    · rcases List.mem_cons.mp hc with e | hc
      · rw [e, degk, nfc_cons, any_yes (s := (k, o)) (by simp) (by simp), if_pos rfl]
        have e1 : nfc cs (k :: c0) = nfc cs c0 := nfc_same fun w hw s hs => by
          have := (dart_ne (fd_in F hw hs)).1
          simp [this]
        have e2 : nlone rd' (k :: c0) + 1 = nlone rd c0 := by
          obtain ⟨A, B, rfl, hA⟩ := mem_split hoc
          have hB : o ∉ B := (List.nodup_cons.mp (List.nodup_append.mp hnc).2.1).1
          have eA : nlone rd' A = nlone rd A := nlone_congr fun v hv => h4 v (hsub _ hc0 v (by simp [hv])) fun e => hA (by rw [← e]; exact hv)
          have eB : nlone rd' B = nlone rd B := nlone_congr fun v hv => h4 v (hsub _ hc0 v (by simp [hv])) fun e => hB (by rw [← e]; exact hv)
          unfold nlone at eA eB ⊢
          simp only [List.countP_cons, List.countP_append, eA, eB, h1, ho', hemp]
          simp
          omega
        have e3 := eu c0 hc0
        rw [e1, List.length_cons]
        omega
      · have e0 := eu c (hin c hc)
        rw [deg_congr (hrest c hc), nlone_congr (hrest c hc), nfc_cons, any_no, if_neg (by simp)]
        · exact e0
        · intro s hs
          have hkc : k ∉ c := fun q => hk (hsub c (hin c hc) k q)
          simp only [List.mem_cons, List.not_mem_nil, or_false] at hs
          rcases hs with e | e
          · rw [e]; exact hkc
          · rw [e]; exact hno c hc
  · -- put in behind some z
    have hne : P ++ S ≠ [] := by rw [← h2]; exact hemp
    obtain ⟨z, hz, n1, n2, n3⟩ := nx_insert (P := P) (S := S) (k := k) (by rw [← h2]; exact h.wf.rn o ho) (by rw [← h2]; exact hkr o ho) hne
    rw [← h2] at hz n2 n3
    rw [← h3] at n1 n2 n3
    have hzd : (z, o) ∈ darts vs rd := mem_darts.mpr ⟨(h.wf.ties o ho z hz).1, (h.wf.ties o ho z hz).2.2⟩
    obtain ⟨T, cr, F1, eqn⟩ := fd_turn F hzd
    have hndT : ((z, o) :: T ++ cr.flatten).Nodup := by
      have := F1.perm.nodup_iff.mpr (darts_nodup h.wf.nd h.wf.rn)
      simpa [List.flatten_cons] using this
    have same : ∀ x ∈ darts vs rd, x ≠ (z, o) → fs rd' x = fs rd x := fun x hx hxz => by
      obtain ⟨a, b, d⟩ := dart_ne hx
      by_cases e : x.2 = o
      · unfold fs
        rw [e] at d ⊢
        rw [n3 x.1 d fun q => hxz (by rw [← q, ← e])]
      · exact fs_congr (h4 x.2 b e)
    have hT : ∀ x ∈ T, x ∈ darts vs rd ∧ x ≠ (z, o) := fun x hx => by
      refine ⟨fd_in F1 (c := (z, o) :: T) (by simp) (List.mem_cons_of_mem _ hx), fun e => ?_⟩
      rw [List.cons_append] at hndT
      exact (List.nodup_cons.mp hndT).1 (by rw [← e]; exact List.mem_append_left _ hx)
    have g1 : fs rd' (z, o) = (o, k) := by unfold fs; rw [n1]
    have g2 : fs rd' (o, k) = (k, o) := by unfold fs; rw [h1]; simp [nx, List.dropWhile_cons]
    have g3 : fs rd' (k, o) = fs rd (z, o) := by unfold fs; rw [n2]
    have hcT : Path (fs rd) (z, o) T (z, o) := F1.cyc ((z, o) :: T) (by simp)
    refine ⟨wf, ((z, o) :: (o, k) :: (k, o) :: T) :: cr, (k :: c0) :: rest, ⟨?_, fun c hc => ?_⟩, cd, fun c hc => ?_⟩
    · refine List.Perm.trans ?_ hdk.symm
      have e1 : (((z, o) :: (o, k) :: (k, o) :: T) :: cr).flatten = (z, o) :: (o, k) :: (k, o) :: (T ++ cr.flatten) := by simp
      rw [e1]
      have p1 : ((z, o) :: (T ++ cr.flatten)).Perm (darts vs rd) := by simpa using F1.perm
      have p2 : ((z, o) :: (o, k) :: (k, o) :: (T ++ cr.flatten)).Perm ((o, k) :: (k, o) :: (z, o) :: (T ++ cr.flatten)) :=
        (List.Perm.swap _ _ _).trans ((List.Perm.swap _ _ _).cons _)
      exact p2.trans ((p1.cons _).cons _)
    · rcases List.mem_cons.mp hc with e | hc
      · rw [e]
        exact ⟨g1, g2, path_first g3 (fun x hx => (same x (hT x hx).1 (hT x hx).2).symm) hcT⟩
      · refine cyc_congr (fun x hx => ?_) (F1.cyc c (List.mem_cons_of_mem _ hc))
        refine (same x (fd_in F1 (c := c) (List.mem_cons_of_mem _ hc) hx) fun e => ?_).symm
        rw [List.cons_append] at hndT
        exact (List.nodup_cons.mp hndT).1 (by rw [← e]; exact List.mem_append_right _ (List.mem_flatten.mpr ⟨c, hc, hx⟩))
    · rcases List.mem_cons.mp hc with e | hc
      · rw [e, degk]
        have e1 : nfc cs (k :: c0) = nfc cs c0 := nfc_same fun w hw s hs => by
          have := (dart_ne (fd_in F hw hs)).1
          simp [this]
        have e4 : nfc (((z, o) :: (o, k) :: (k, o) :: T) :: cr) (k :: c0) = nfc (((z, o) :: T) :: cr) (k :: c0) := by
          rw [nfc_cons, nfc_cons, any_yes (s := (o, k)) (by simp) (List.mem_cons_of_mem _ hoc)]
          have hzc : z ∈ c0 := Cd.shut c0 hc0 o hoc z hz
          rw [any_yes (w := (z, o) :: T) (s := (z, o)) (by simp) (List.mem_cons_of_mem _ hzc)]
        have e2 : nlone rd' (k :: c0) = nlone rd c0 := by
          obtain ⟨A, B, rfl, hA⟩ := mem_split hoc
          have hB : o ∉ B := (List.nodup_cons.mp (List.nodup_append.mp hnc).2.1).1
          have eA : nlone rd' A = nlone rd A := nlone_congr fun v hv => h4 v (hsub _ hc0 v (by simp [hv])) fun e => hA (by rw [← e]; exact hv)
          have eB : nlone rd' B = nlone rd B := nlone_congr fun v hv => h4 v (hsub _ hc0 v (by simp [hv])) fun e => hB (by rw [← e]; exact hv)
          have ho' : (rd' o).isEmpty = false := by rw [h3]; simp
          have ho2 : (rd o).isEmpty = false := by simpa using hemp
          unfold nlone at eA eB ⊢
          simp only [List.countP_cons, List.countP_append, eA, eB, h1, ho', ho2]
          simp
        have e3 := eu c0 hc0
        rw [e4, eqn, e1, e2, List.length_cons]
        omega
      · have e0 := eu c (hin c hc)
        have hkc : k ∉ c := fun q => hk (hsub c (hin c hc) k q)
        have e4 : nfc (((z, o) :: (o, k) :: (k, o) :: T) :: cr) c = nfc (((z, o) :: T) :: cr) c := by
          have ha : (((z, o) :: (o, k) :: (k, o) :: T).any fun s => decide (s.1 ∈ c)) = (((z, o) :: T).any fun s => decide (s.1 ∈ c)) := by
            have e5 : decide (o ∈ c) = false := decide_eq_false (hno c hc)
            have e6 : decide (k ∈ c) = false := decide_eq_false hkc
            simp only [List.any_cons, e5, e6, Bool.false_or]
          rw [nfc_cons, nfc_cons, ha]
        rw [deg_congr (hrest c hc), nlone_congr (hrest c hc), e4, eqn]
        exact e0

theorem Pl.chord {vs : List α} {rd rd' : α → List α} {o q a p : α} {A B C D : List α} (h : Pl vs rd) (ho : o ∈ vs) (hq : q ∈ vs) (hqo : q ≠ o) (hnt : q ∉ rd o) (h1 : rd o = A ++ a :: B) (h2 : rd' o = A ++ a :: q :: B) (h3 : rd q = C ++ p :: D) (h4 : rd' q = C ++ p :: o :: D)
    (h5 : ∀ v ∈ vs, v ≠ o → v ≠ q → rd' v = rd v) (hf : ∃ r, Path (fs rd) (a, o) r (p, q)) : Pl vs rd' := by
  obtain ⟨cs, ps, F, Cd, eu⟩ := h.flat
  have hsub : ∀ c ∈ ps, ∀ v ∈ c, v ∈ vs := fun c hc v hv => Cd.perm.mem_iff.mp (List.mem_flatten.mpr ⟨c, hc, hv⟩)
  have hoq : o ∉ rd q := fun w => hnt (h.wf.ties q hq o w).2.2
  have po : (rd' o).Perm (q :: rd o) := by
    rw [h1, h2, show A ++ a :: q :: B = (A ++ [a]) ++ q :: B by simp, show A ++ a :: B = (A ++ [a]) ++ B by simp]
    exact List.perm_middle
  have pq : (rd' q).Perm (o :: rd q) := by
    rw [h3, h4, show C ++ p :: o :: D = (C ++ [p]) ++ o :: D by simp, show C ++ p :: D = (C ++ [p]) ++ D by simp]
    exact List.perm_middle
  have mo : ∀ u, u ∈ rd' o ↔ u = q ∨ u ∈ rd o := fun u => by rw [po.mem_iff, List.mem_cons]
  have mq : ∀ u, u ∈ rd' q ↔ u = o ∨ u ∈ rd q := fun u => by rw [pq.mem_iff, List.mem_cons]
  have more : ∀ v ∈ vs, ∀ u ∈ rd v, u ∈ rd' v := fun v hv u hu => by
    by_cases e : v = o
    · rw [e] at hu ⊢; exact (mo u).mpr (.inr hu)
    · by_cases e2 : v = q
      · rw [e2] at hu ⊢; exact (mq u).mpr (.inr hu)
      · rw [h5 v hv e e2]; exact hu
  have wf : Wf vs rd' := by
    refine ⟨h.wf.nd, fun v hv => ?_, fun v hv u hu => ?_⟩
    · by_cases e : v = o
      · rw [e]; exact po.nodup_iff.mpr (List.nodup_cons.mpr ⟨hnt, h.wf.rn o ho⟩)
      · by_cases e2 : v = q
        · rw [e2]; exact pq.nodup_iff.mpr (List.nodup_cons.mpr ⟨hoq, h.wf.rn q hq⟩)
        · rw [h5 v hv e e2]; exact h.wf.rn v hv
    · have old : u ∈ rd v → u ∈ vs ∧ u ≠ v ∧ v ∈ rd' u := fun hu => by
        obtain ⟨x, y, z⟩ := h.wf.ties v hv u hu
        exact ⟨x, y, more u x v z⟩
      by_cases e : v = o
      · rw [e] at hu
        rcases (mo u).mp hu with e3 | hu
        · rw [e3, e]; exact ⟨hq, hqo, (mq o).mpr (.inl rfl)⟩
        · exact old (by rw [e]; exact hu)
      · by_cases e2 : v = q
        · rw [e2] at hu
          rcases (mq u).mp hu with e3 | hu
          · rw [e3, e2]; exact ⟨ho, fun w => hqo w.symm, (mo q).mpr (.inl rfl)⟩
          · exact old (by rw [e2]; exact hu)
        · rw [h5 v hv e e2] at hu
          exact old hu
  have hao : a ∈ rd o := by rw [h1]; simp
  have hpq : p ∈ rd q := by rw [h3]; simp
  obtain ⟨o1, o2, o3⟩ := nx_ins (A := A) (B := B) (z := a) (k := q) (by rw [← h1]; exact h.wf.rn o ho) (by rw [← h1]; exact hnt)
  obtain ⟨q1, q2, q3⟩ := nx_ins (A := C) (B := D) (z := p) (k := o) (by rw [← h3]; exact h.wf.rn q hq) (by rw [← h3]; exact hoq)
  rw [← h2] at o1 o2 o3
  rw [← h1] at o2 o3
  rw [← h4] at q1 q2 q3
  rw [← h3] at q2 q3
  have hd0 : (a, o) ∈ darts vs rd := mem_darts.mpr ⟨(h.wf.ties o ho a hao).1, (h.wf.ties o ho a hao).2.2⟩
  have hne : (p, q) ≠ (a, o) := fun e => hqo (Prod.mk.inj e).2
  obtain ⟨T, cr, F1, eqn⟩ := fd_turn F hd0
  have hcT : Path (fs rd) (a, o) T (a, o) := F1.cyc ((a, o) :: T) (by simp)
  have hpT : (p, q) ∈ T := by
    obtain ⟨r, hr⟩ := hf
    have := cyc_path (c := (a, o) :: T) hcT (s := (a, o)) (by simp) hr
    rcases List.mem_cons.mp this with e | e
    · exact absurd e hne
    · exact e
  have hndT : ((a, o) :: (T ++ cr.flatten)).Nodup := by
    have := F1.perm.nodup_iff.mpr (darts_nodup h.wf.nd h.wf.rn)
    simpa [List.flatten_cons] using this
  have hinT : ∀ x ∈ T, x ∈ darts vs rd := fun x hx => fd_in F1 (c := (a, o) :: T) (by simp) (List.mem_cons_of_mem _ hx)
  obtain ⟨X, Y, rfl, hX⟩ := mem_split hpT
  have nd2 := (List.nodup_cons.mp hndT)
  have hY : (p, q) ∉ Y := fun w => by
    have z := nd2.2
    rw [List.append_assoc, List.cons_append] at z
    exact (List.nodup_cons.mp (List.nodup_append.mp z).2.1).1 (List.mem_append_left _ w)
  have hnot : ∀ x, x ∈ X ∨ x ∈ Y → x ≠ (a, o) ∧ x ≠ (p, q) := fun x hx => by
    refine ⟨fun e => nd2.1 ?_, fun e => ?_⟩
    · rw [← e]
      rcases hx with w | w <;> simp [w]
    · rw [e] at hx
      rcases hx with w | w
      · exact hX w
      · exact hY w
  have same : ∀ x ∈ darts vs rd, x ≠ (a, o) → x ≠ (p, q) → fs rd x = fs rd' x := fun x hx e1 e2 => by
    obtain ⟨x1, x2⟩ := mem_darts.mp hx
    obtain ⟨y1, y2, y3⟩ := h.wf.ties x.1 x1 x.2 x2
    by_cases e : x.2 = o
    · unfold fs
      rw [e] at y3 ⊢
      rw [o3 x.1 y3 fun w => e1 (by rw [← w, ← e])]
    · by_cases e3 : x.2 = q
      · unfold fs
        rw [e3] at y3 ⊢
        rw [q3 x.1 y3 fun w => e2 (by rw [← w, ← e3])]
      · exact (fs_congr (h5 x.2 y1 e e3)).symm
  obtain ⟨hp1, hp2⟩ := path_app.mp hcT
  have g1 : fs rd' (a, o) = (o, q) := by unfold fs; rw [o1]
  have g2 : fs rd' (o, q) = fs rd (p, q) := by unfold fs; rw [q2]
  have g3 : fs rd' (p, q) = (q, o) := by unfold fs; rw [q1]
  have g4 : fs rd' (q, o) = fs rd (a, o) := by unfold fs; rw [o2]
  have sX : ∀ x ∈ X, fs rd x = fs rd' x := fun x hx => same x (hinT x (by simp [hx])) (hnot x (.inl hx)).1 (hnot x (.inl hx)).2
  have sY : ∀ x ∈ Y, fs rd x = fs rd' x := fun x hx => same x (hinT x (by simp [hx])) (hnot x (.inr hx)).1 (hnot x (.inr hx)).2
  have c1 : Cyc (fs rd') ((a, o) :: (o, q) :: Y) := ⟨g1, path_first g2 sY hp2⟩
  have c2 : Cyc (fs rd') ((q, o) :: (X ++ (p, q) :: [])) := path_app.mpr ⟨path_first g4 sX hp1, g3⟩
  have hdk : (darts vs rd').Perm ((q, o) :: (o, q) :: darts vs rd) := by
    have s1 : (darts vs fun v => if v = o then rd' o else rd v).Perm ((o, q) :: darts vs rd) := by
      refine darts_ins h.wf.nd ho ?_ fun v hv e => by simp [e]
      simpa using po
    have s2 : (darts vs rd').Perm ((q, o) :: darts vs fun v => if v = o then rd' o else rd v) := by
      refine darts_ins h.wf.nd hq ?_ fun v hv e => ?_
      · simpa [hqo] using pq
      · by_cases e2 : v = o
        · simp [e2]
        · simp only [e2, if_false]
          exact h5 v hv e2 e
    exact s2.trans (s1.cons _)
  -- the piece of o and q
  obtain ⟨c0, hc0, hoc⟩ := List.mem_flatten.mp (Cd.perm.mem_iff.mpr ho)
  have hac : a ∈ c0 := Cd.shut c0 hc0 o hoc a hao
  have hcyc : ∀ x ∈ (a, o) :: (X ++ (p, q) :: Y), x.1 ∈ c0 := cyc_shut (vs := vs) (Cd.shut c0 hc0) (fun x hx => fd_in F1 (c := (a, o) :: (X ++ (p, q) :: Y)) (by simp) hx) hcT (s := (a, o)) (by simp) hac
  have hqc : q ∈ c0 := Cd.shut c0 hc0 p (hcyc (p, q) (by simp)) q (h.wf.ties q hq p hpq).2.2
  have hnd : ps.flatten.Nodup := Cd.perm.nodup_iff.mpr h.wf.nd
  have only : ∀ c ∈ ps, c ≠ c0 → ∀ x ∈ c0, x ∉ c := fun c hc e x hx => by
    obtain ⟨rest, hpr⟩ := perm_head hc0
    have hcr : c ∈ rest := by
      rcases List.mem_cons.mp (hpr.mem_iff.mp hc) with w | w
      · exact absurd w e
      · exact w
    exact nodup_flatten_apart ((hpr.flatten.nodup_iff).mp hnd) hcr hx
  have lone_same : ∀ v ∈ vs, (rd' v).isEmpty = (rd v).isEmpty := fun v hv => by
    by_cases e : v = o
    · rw [e, h1, h2]; cases A <;> rfl
    · by_cases e2 : v = q
      · rw [e2, h3, h4]; cases C <;> rfl
      · rw [h5 v hv e e2]
  have nl : ∀ c ∈ ps, nlone rd' c = nlone rd c := fun c hc => List.countP_congr fun v hv => by rw [lone_same v (hsub c hc v hv)]
  refine ⟨wf, ((a, o) :: (o, q) :: Y) :: ((q, o) :: (X ++ (p, q) :: [])) :: cr, ps, ⟨?_, fun c hc => ?_⟩, ⟨Cd.perm, fun c hc v hv u hu => ?_, fun c hc => ⟨(Cd.conn c hc).1, fun S hS => (Cd.conn c hc).2 S fun v u hv hs hu => hS v u hv hs (more v (hsub c hc v hv) u hu)⟩⟩, fun c hc => ?_⟩
  · refine List.Perm.trans ?_ hdk.symm
    have p1 : ((a, o) :: (X ++ (p, q) :: Y) ++ cr.flatten).Perm (darts vs rd) := by simpa using F1.perm
    have e1 : (((a, o) :: (o, q) :: Y) :: ((q, o) :: (X ++ (p, q) :: [])) :: cr).flatten = (a, o) :: (o, q) :: (Y ++ ((q, o) :: (X ++ (p, q) :: []) ++ cr.flatten)) := by simp
    rw [e1]
    have p2 : (Y ++ ((q, o) :: (X ++ (p, q) :: []) ++ cr.flatten)).Perm ((q, o) :: (X ++ (p, q) :: Y ++ cr.flatten)) := by
      rw [List.cons_append]
      refine List.perm_middle.trans (List.Perm.cons _ ?_)
      rw [← List.append_assoc]
      refine List.Perm.append_right _ ?_
      refine List.perm_append_comm.trans ?_
      simp
    refine ((p2.cons _).cons _).trans ?_
    have p3 : ((a, o) :: (o, q) :: (q, o) :: (X ++ (p, q) :: Y ++ cr.flatten)).Perm ((q, o) :: (o, q) :: (a, o) :: (X ++ (p, q) :: Y ++ cr.flatten)) := by
      refine (List.Perm.swap _ _ _).trans ?_
      refine ((List.Perm.swap _ _ _).cons _).trans ?_
      exact List.Perm.swap _ _ _
    exact p3.trans ((p1.cons _).cons _)
  · rcases List.mem_cons.mp hc with e | hc
    · rw [e]; exact c1
    · rcases List.mem_cons.mp hc with e | hc
      · rw [e]; exact c2
      · refine cyc_congr (fun x hx => ?_) (F1.cyc c (List.mem_cons_of_mem _ hc))
        have hxf : x ∈ cr.flatten := List.mem_flatten.mpr ⟨c, hc, hx⟩
        refine same x (fd_in F1 (c := c) (List.mem_cons_of_mem _ hc) hx) (fun e => nd2.1 (by rw [← e]; exact List.mem_append_right _ hxf)) fun e => ?_
        have z := nd2.2
        exact (List.nodup_append.mp z).2.2 (p, q) (by simp) x hxf e.symm
  · by_cases e : v = o
    · rw [e] at hu hv
      have hcc : c = c0 := Classical.byContradiction fun w => only c hc w o hoc hv
      rcases (mo u).mp hu with e2 | hu
      · rw [e2, hcc]; exact hqc
      · exact Cd.shut c hc o hv u hu
    · by_cases e2 : v = q
      · rw [e2] at hu hv
        have hcc : c = c0 := Classical.byContradiction fun w => only c hc w q hqc hv
        rcases (mq u).mp hu with e3 | hu
        · rw [e3, hcc]; exact hoc
        · exact Cd.shut c hc q hv u hu
      · rw [h5 v (hsub c hc v hv) e e2] at hu
        exact Cd.shut c hc v hv u hu
  · have e0 := eu c hc
    rw [nl c hc]
    by_cases e : c = c0
    · subst e
      have hnc : c.Nodup := by
        obtain ⟨rest, hpr⟩ := perm_head hc0
        have := (hpr.flatten.nodup_iff).mp hnd
        rw [List.flatten_cons] at this
        exact (List.nodup_append.mp this).1
      have dg : deg rd' c = deg rd c + 2 := by
        have ins : ∀ (r r' : α → List α) (x : α), x ∈ c → (r' x).length = (r x).length + 1 → (∀ v ∈ c, v ≠ x → r' v = r v) → deg r' c = deg r c + 1 := by
          intro r r' x hx hl hs
          obtain ⟨E, G, e9, hE⟩ := mem_split hx
          have hG : x ∉ G := by
            rw [e9] at hnc
            exact (List.nodup_cons.mp (List.nodup_append.mp hnc).2.1).1
          have eA : deg r' E = deg r E := deg_congr fun v hv => hs v (by rw [e9]; simp [hv]) fun w => hE (by rw [← w]; exact hv)
          have eB : deg r' G = deg r G := deg_congr fun v hv => hs v (by rw [e9]; simp [hv]) fun w => hG (by rw [← w]; exact hv)
          rw [e9]
          unfold deg at eA eB ⊢
          simp only [List.map_append, List.map_cons, List.sum_append, List.sum_cons, eA, eB, hl]
          omega
        have s1 := ins rd (fun v => if v = o then rd' o else rd v) o hoc (by simpa using po.length_eq) fun v hv e => by simp [e]
        have s2 := ins (fun v => if v = o then rd' o else rd v) rd' q hqc (by simpa [hqo] using pq.length_eq) fun v hv e => by
          by_cases e2 : v = o
          · simp [e2]
          · simp only [e2, if_false]
            exact h5 v (hsub c hc v hv) e2 e
        omega
      have e5 := eqn c
      rw [nfc_cons, any_yes (s := (a, o)) (by simp) hac, if_pos rfl] at e5
      rw [nfc_cons, nfc_cons, any_yes (w := (a, o) :: (o, q) :: Y) (s := (a, o)) (by simp) hac, any_yes (w := (q, o) :: (X ++ (p, q) :: [])) (s := (q, o)) (by simp) hqc, if_pos rfl, dg]
      omega
    · have hno : ∀ x ∈ c0, x ∉ c := only c hc e
      have dg : deg rd' c = deg rd c := deg_congr fun v hv => h5 v (hsub c hc v hv) (fun w => hno o hoc (by rw [← w]; exact hv)) fun w => hno q hqc (by rw [← w]; exact hv)
      have e5 := eqn c
      rw [nfc_cons, any_no fun s hs => hno s.1 (hcyc s hs), if_neg (by simp)] at e5
      have n1 : ((((a, o) :: (o, q) :: Y)).any fun s => decide (s.1 ∈ c)) = false := any_no fun s hs => by
        rcases List.mem_cons.mp hs with w | w
        · rw [w]; exact hno a hac
        · rcases List.mem_cons.mp w with w | w
          · rw [w]; exact hno o hoc
          · exact hno s.1 (hcyc s (by simp [w]))
      have n2 : (((q, o) :: (X ++ (p, q) :: [])).any fun s => decide (s.1 ∈ c)) = false := any_no fun s hs => by
        rcases List.mem_cons.mp hs with w | w
        · rw [w]; exact hno q hqc
        · exact hno s.1 (hcyc s (by simp at w ⊢; rcases w with w | w <;> simp [w]))
      rw [nfc_cons, nfc_cons, n1, n2, if_neg (by simp), dg]
      omega
/-- other names, rounds turned, places in another order -/
theorem Pl.named {β : Type} [DecidableEq β] {vs : List α} {rd : α → List α} {vs' : List β} {rd' : β → List β} (g : α → β) (h : Pl vs rd) (hg : ∀ x ∈ vs, ∀ y ∈ vs, g x = g y → x = y) (hv : vs'.Perm (vs.map g))
    (hr : ∀ v ∈ vs, ∃ L M, (rd v).map g = L ++ M ∧ rd' (g v) = M ++ L) : Pl vs' rd' := by
  obtain ⟨cs, ps, F, Cd, eu⟩ := h.flat
  have hsub : ∀ c ∈ ps, ∀ v ∈ c, v ∈ vs := fun c hc v hv => Cd.perm.mem_iff.mp (List.mem_flatten.mpr ⟨c, hc, hv⟩)
  have nodup_map : ∀ (l : List α), l.Nodup → (∀ x ∈ l, x ∈ vs) → (l.map g).Nodup := by
    intro l
    induction l with
    | nil => intro _ _; simp
    | cons a r ih =>
      intro hn hs
      obtain ⟨h1, h2⟩ := List.nodup_cons.mp hn
      rw [List.map_cons]
      refine List.nodup_cons.mpr ⟨fun q => ?_, ih h2 fun x hx => hs x (List.mem_cons_of_mem _ hx)⟩
      obtain ⟨y, hy, e⟩ := List.mem_map.mp q
      have := hg y (hs y (List.mem_cons_of_mem _ hy)) a (hs a (by simp)) e
      rw [this] at hy
      exact h1 hy
  have pr : ∀ v ∈ vs, (rd' (g v)).Perm ((rd v).map g) := fun v hv => by
    obtain ⟨L, M, e1, e2⟩ := hr v hv
    rw [e1, e2]
    exact List.perm_append_comm
  have mr : ∀ v ∈ vs, ∀ u ∈ vs, (g u ∈ rd' (g v) ↔ u ∈ rd v) := fun v hv u hu => by
    rw [(pr v hv).mem_iff, List.mem_map]
    constructor
    · rintro ⟨y, hy, e⟩
      rw [← hg y (h.wf.ties v hv y hy).1 u hu e]
      exact hy
    · exact fun q => ⟨u, q, rfl⟩
  have rnd : ∀ v ∈ vs, ((rd v).map g).Nodup := fun v hv => nodup_map _ (h.wf.rn v hv) fun x hx => (h.wf.ties v hv x hx).1
  have gnx : ∀ v ∈ vs, ∀ u ∈ rd v, nx (rd' (g v)) (g u) = g (nx (rd v) u) := fun v hv u hu => by
    obtain ⟨L, M, e1, e2⟩ := hr v hv
    have hn := rnd v hv
    rw [e1] at hn
    rw [e2, nx_rot hn (by rw [← e1]; exact List.mem_map.mpr ⟨u, hu, rfl⟩), ← e1]
    exact nx_map hu fun y hy e => hg y (h.wf.ties v hv y hy).1 u (h.wf.ties v hv u hu).1 e
  have mv : ∀ x, x ∈ vs' ↔ ∃ v ∈ vs, g v = x := fun x => by rw [hv.mem_iff, List.mem_map]
  have mc : ∀ (c : List α), (∀ v ∈ c, v ∈ vs) → ∀ v ∈ vs, (g v ∈ c.map g ↔ v ∈ c) := fun c hc v hv => by
    rw [List.mem_map]
    constructor
    · rintro ⟨y, hy, e⟩
      rw [← hg y (hc y hy) v hv e]
      exact hy
    · exact fun q => ⟨v, q, rfl⟩
  have lr : ∀ v ∈ vs, (rd' (g v)).length = (rd v).length := fun v hv => by rw [(pr v hv).length_eq, List.length_map]
  refine ⟨⟨hv.nodup_iff.mpr (nodup_map _ h.wf.nd fun _ q => q), fun x hx => ?_, fun x hx u hu => ?_⟩, cs.map (List.map fun s => (g s.1, g s.2)), ps.map (List.map g), ⟨?_, fun c hc => ?_⟩, ⟨?_, fun c hc x hx u hu => ?_, fun c hc => ?_⟩, fun c hc => ?_⟩
  · obtain ⟨v, hvv, rfl⟩ := (mv x).mp hx
    exact (pr v hvv).nodup_iff.mpr (rnd v hvv)
  · obtain ⟨v, hvv, rfl⟩ := (mv x).mp hx
    obtain ⟨y, hy, rfl⟩ := List.mem_map.mp ((pr v hvv).mem_iff.mp hu)
    obtain ⟨a, b, c⟩ := h.wf.ties v hvv y hy
    exact ⟨(mv _).mpr ⟨y, a, rfl⟩, fun e => b (hg y a v hvv e), (mr y a v hvv).mpr c⟩
  · have e1 : (cs.map (List.map fun s => (g s.1, g s.2))).flatten = cs.flatten.map fun s => (g s.1, g s.2) := by rw [List.map_flatten]
    rw [e1]
    refine (F.perm.map _).trans ?_
    have e2 : ∀ (l : List α), (∀ v ∈ l, v ∈ vs) → ((darts l rd).map fun s => (g s.1, g s.2)).Perm (darts (l.map g) rd') := by
      intro l
      induction l with
      | nil => intro _; simp [darts]
      | cons v r ih =>
        intro hl
        have e3 : darts (v :: r) rd = (rd v).map (fun u => (v, u)) ++ darts r rd := rfl
        have e4 : darts ((v :: r).map g) rd' = (rd' (g v)).map (fun u => (g v, u)) ++ darts (r.map g) rd' := rfl
        rw [e3, e4, List.map_append]
        refine List.Perm.append ?_ (ih fun u hu => hl u (List.mem_cons_of_mem _ hu))
        have := ((pr v (hl v (by simp))).map fun u => (g v, u)).symm
        simpa [List.map_map, Function.comp_def] using this
    refine (e2 vs fun _ q => q).trans ?_
    unfold darts
    exact (hv.symm.flatMap_right _)
  · obtain ⟨w, hw, rfl⟩ := List.mem_map.mp hc
    refine cyc_map (fun x hx => ?_) (F.cyc w hw)
    have hx' := mem_darts.mp (fd_in F hw hx)
    obtain ⟨a, b, c⟩ := h.wf.ties x.1 hx'.1 x.2 hx'.2
    show (g x.2, nx (rd' (g x.2)) (g x.1)) = (g x.2, g (nx (rd x.2) x.1))
    rw [gnx x.2 a x.1 c]
  · rw [← List.map_flatten]
    exact (Cd.perm.map g).trans hv.symm
  · obtain ⟨c, hd, rfl⟩ := List.mem_map.mp hc
    obtain ⟨v, hvc, rfl⟩ := List.mem_map.mp hx
    obtain ⟨y, hy, rfl⟩ := List.mem_map.mp ((pr v (hsub c hd v hvc)).mem_iff.mp hu)
    exact List.mem_map.mpr ⟨y, Cd.shut c hd v hvc y hy, rfl⟩
  · obtain ⟨c, hd, rfl⟩ := List.mem_map.mp hc
    refine ⟨by simpa using (Cd.conn c hd).1, fun S hS x hx hs u hu => ?_⟩
    obtain ⟨v, hvc, rfl⟩ := List.mem_map.mp hx
    obtain ⟨y, hy, rfl⟩ := List.mem_map.mp hu
    refine (Cd.conn c hd).2 (fun z => S (g z)) (fun a b ha hsa hb => ?_) v hvc hs y hy
    exact hS (g a) (g b) (List.mem_map.mpr ⟨a, ha, rfl⟩) hsa ((mr a (hsub c hd a ha) b (h.wf.ties a (hsub c hd a ha) b hb).1).mpr hb)
  · obtain ⟨c, hd, rfl⟩ := List.mem_map.mp hc
    have e0 := eu c hd
    have e1 : deg rd' (c.map g) = deg rd c := by
      unfold deg
      rw [List.map_map]
      exact congrArg List.sum (List.map_congr_left fun v hv => lr v (hsub c hd v hv))
    have e2 : nlone rd' (c.map g) = nlone rd c := by
      unfold nlone
      rw [List.countP_map]
      refine List.countP_congr fun v hv => ?_
      have e5 : (rd' (g v)).isEmpty = (rd v).isEmpty := by
        have := lr v (hsub c hd v hv)
        cases e6 : rd v <;> cases e7 : rd' (g v) <;> simp_all
      simp only [Function.comp]
      rw [e5]
    have e3 : nfc (cs.map (List.map fun s => (g s.1, g s.2))) (c.map g) = nfc cs c := by
      unfold nfc
      rw [List.countP_map]
      refine List.countP_congr fun w hw => ?_
      simp only [Function.comp, List.any_eq_true, decide_eq_true_eq]
      constructor
      · rintro ⟨s, hs, e⟩
        obtain ⟨t, ht, rfl⟩ := List.mem_map.mp hs
        exact ⟨t, ht, (mc c (hsub c hd) t.1 (mem_darts.mp (fd_in F hw ht)).1).mp e⟩
      · rintro ⟨t, ht, e⟩
        exact ⟨_, List.mem_map.mpr ⟨t, ht, rfl⟩, (mc c (hsub c hd) t.1 (mem_darts.mp (fd_in F hw ht)).1).mpr e⟩
    rw [e1, e2, e3, List.length_map]
    exact e0
end
end Five
end
section
namespace Five
open PySem PySem.Spec PyProof.Rows L2
/-! the heap without some objects (those that one may change) -/
def wo (H : Hp) (M : List Addr) : Hp := fun a => if a ∈ M then none else H a
def Al (M : List Addr) (H : Hp) : Prop := ∀ m ∈ M, H m ≠ none
/-- what is to be read in the one is to be read in the other -/
def Pln : HO → Prop
  | .frz _ _ => False
  | _ => True
def Ex : HO → Prop
  | .dK _ => False
  | .dT _ => False
  | .frz _ _ => False
  | _ => True
structure Sm (G H : Hp) : Prop where
  r : ∀ a u, Pln u → Rd G a u → Rd H a u
  t : ∀ a u, Ex u → G a = some u → H a = some u
theorem _root_.L2.Same.rd {H H' : Hp} {d : Addr} {u : HO} (s : Same H H') (h : Rd H d u) : Rd H' d u := by
  rcases h with h | ⟨o, h⟩
  · exact .inl (s _ _ h)
  · exact .inr ⟨o, s _ _ h⟩
theorem _root_.L2.Same.sm {H H' : Hp} (s : Same H H') : Sm H H' := ⟨fun _ _ _ h => s.rd h, fun _ _ _ h => s _ _ h⟩
theorem _root_.L2.Same.new {H : Hp} {p : Addr} {o : HO} (h : H p = none) : Same H (upd H p o) := fun a u e => by
  rw [upd_ne (ne_of_none e h)]
  exact e
theorem _root_.L2.Same.mut {H H' : Hp} {p : Addr} {o : HO} (e : Same H H') (h : H p = none) : Same H (upd H' p o) := fun a u ha => by
  rw [upd_ne (ne_of_none ha h)]
  exact e a u ha
theorem Sm.trans {A B C : Hp} (a : Sm A B) (b : Sm B C) : Sm A C := ⟨fun x u q h => b.r x u q (a.r x u q h), fun x u q h => b.t x u q (a.t x u q h)⟩
theorem Sm.seq {K : PySem.W.Frag} {H H' : Hp} {a : Addr} {xs : List V} (e : Sm H H') (h : SqL K H a xs) : SqL K H' a xs := by
  rcases h with h | h
  · exact .inl (e.r _ _ trivial h)
  · exact .inr h
theorem Sm.seqT {K : PySem.W.Frag} {H H' : Hp} {a : Addr} {xs : List V} (e : Sm H H') (h : SqT K H a xs) : SqT K H' a xs := by
  rcases h with h | h
  · exact .inl (e.r _ _ trivial h)
  · exact .inr h
section
variable {H H' G : Hp} {M L : List Addr} {p a : Addr} {o : HO}
theorem wo_in (h : a ∈ M) : wo H M a = none := by unfold wo; rw [if_pos h]
theorem wo_out (h : a ∉ M) : wo H M a = H a := by unfold wo; rw [if_neg h]
theorem wo_get (h : wo H M a = some o) : H a = some o ∧ a ∉ M := by
  unfold wo at h
  split at h
  · cases h
  · next q => exact ⟨h, q⟩
theorem wo_same : Same (wo H M) H := fun _ _ h => (wo_get h).1
theorem wo_nil : wo H [] = H := by funext a; unfold wo; rw [if_neg (by simp)]
theorem _root_.L2.Same.wo (s : Same H H') : Same (wo H M) (wo H' M) := fun a o h => by
  obtain ⟨h1, h2⟩ := wo_get h
  rw [wo_out h2]
  exact s _ _ h1
theorem wo_ext (s : Same H H') (h : ∀ l ∈ L, H l = none) : Same (wo H M) (wo H' (L ++ M)) := fun a o e => by
  obtain ⟨h1, h2⟩ := wo_get e
  have h3 : a ∉ L ++ M := fun q => by
    rcases List.mem_append.mp q with q | q
    · rw [h a q] at h1; cases h1
    · exact h2 q
  rw [wo_out h3]
  exact s _ _ h1
theorem wo_ext1 {l : Addr} (s : Same H H') (h : H l = none) : Same (wo H M) (wo H' (l :: M)) := wo_ext (L := [l]) s (by simpa using h)
theorem wo_ext2 {l k : Addr} (s : Same H H') (h : H l = none) (h2 : H k = none) : Same (wo H M) (wo H' (l :: k :: M)) := wo_ext (L := [l, k]) s (fun x hx => by simp at hx; rcases hx with e | e <;> rw [e] <;> assumption)
theorem wo_ext3 {l k j : Addr} (s : Same H H') (h : H l = none) (h2 : H k = none) (h3 : H j = none) : Same (wo H M) (wo H' (l :: k :: j :: M)) := wo_ext (L := [l, k, j]) s (fun x hx => by simp at hx; rcases hx with e | e | e <;> rw [e] <;> assumption)
theorem Al.fresh (al : Al M H) (h : H p = none) : p ∉ M := fun q => al p q h
theorem Al.same (al : Al M H) (s : Same H H') : Al M H' := fun m hm e => al m hm (s.free e)
theorem Al.cons (al : Al M H) (h : H p = some o) : Al (p :: M) H := fun m hm => by
  rcases List.mem_cons.mp hm with e | e
  · rw [e, h]; exact fun z => nomatch z
  · exact al m e
theorem Al.upd (al : Al M H) : Al M (upd H p o) := fun m hm => by
  unfold L2.upd
  split
  · exact fun z => nomatch z
  · exact al m hm
theorem Al.new (al : Al M H) : Al (p :: M) (L2.upd H p o) := Al.cons al.upd upd_same
theorem al_nil : Al [] H := fun _ h => nomatch h
theorem wo_mut (h : p ∈ M) : wo (L2.upd H p o) M = wo H M := by
  funext a
  by_cases q : a ∈ M
  · rw [wo_in q, wo_in q]
  · rw [wo_out q, wo_out q, upd_ne fun e => q (by rw [e]; exact h)]
theorem wo_new (h : p ∉ M) : wo (L2.upd H p o) M = L2.upd (wo H M) p o := by
  funext a
  by_cases q : a = p
  · rw [q, wo_out h, upd_same, upd_same]
  · rw [upd_ne q]
    by_cases q2 : a ∈ M
    · rw [wo_in q2, wo_in q2]
    · rw [wo_out q2, wo_out q2, upd_ne q]
theorem wo_push (h : H p = none) : wo (L2.upd H p o) (p :: M) = wo H M := by
  funext a
  by_cases q : a = p
  · rw [q, wo_in (by simp)]
    by_cases q2 : p ∈ M
    · rw [wo_in q2]
    · rw [wo_out q2, h]
  · by_cases q2 : a ∈ M
    · rw [wo_in q2, wo_in (List.mem_cons_of_mem _ q2)]
    · rw [wo_out q2, wo_out (by simp [q, q2]), upd_ne q]
theorem wo_pop : Same (wo H (p :: M)) (wo H M) := fun a o e => by
  obtain ⟨h1, h2⟩ := wo_get e
  rw [wo_out fun q => h2 (List.mem_cons_of_mem _ q)]
  exact h1
theorem wo_less (h : ∀ x ∈ M, x ∈ L) : Same (wo H L) (wo H M) := fun a o e => by
  obtain ⟨h1, h2⟩ := wo_get e
  rw [wo_out fun q => h2 (h _ q)]
  exact h1
/-! locks -/
theorem lock_sm {od : Obj} {d : Addr} {u : HO} (h : G d = some u) (mu : Mut (some u)) (nx : ¬ Ex u) : Sm G (L2.upd G d (.frz od u)) := ⟨fun a x _ r => by
  by_cases e : a = d
  · subst e
    rcases r with r | ⟨o, r⟩
    · rw [h] at r
      cases r
      exact .inr ⟨od, upd_same⟩
    · rw [h] at r
      cases r
      exact mu.elim
  · rcases r with r | ⟨o, r⟩
    · exact .inl (by rw [upd_ne e]; exact r)
    · exact .inr ⟨o, by rw [upd_ne e]; exact r⟩
  , fun a xs q2 h2 => by
    have e : a ≠ d := fun q => by
      rw [q, h] at h2
      cases h2
      exact nx q2
    rw [upd_ne e]; exact h2⟩
theorem unlock_sm {od : Obj} {d : Addr} {u : HO} (h : G d = some (.frz od u)) : Sm G (L2.upd G d u) := ⟨fun a x pl r => by
  by_cases e : a = d
  · subst e
    rcases r with r | ⟨o, r⟩
    · rw [h] at r
      cases r
      exact pl.elim
    · rw [h] at r
      cases r
      exact .inl upd_same
  · rcases r with r | ⟨o, r⟩
    · exact .inl (by rw [upd_ne e]; exact r)
    · exact .inr ⟨o, by rw [upd_ne e]; exact r⟩
  , fun a xs q2 h2 => by
    have e : a ≠ d := fun q => by
      rw [q, h] at h2
      cases h2
      exact q2
    rw [upd_ne e]; exact h2⟩
theorem unlock_same {od : Obj} {d : Addr} {u : HO} (h : H d = some u) (s : Same (L2.upd H d (.frz od u)) H') : Same H (L2.upd H' d u) := fun a x e => by
  by_cases q : a = d
  · rw [q, upd_same]
    rw [q, h] at e
    exact e
  · rw [upd_ne q]
    exact s _ _ (by rw [upd_ne q]; exact e)
end
/-! what stands in the heap, by its address; K: the written part -/
abbrev Row := Str × List Str
def rdf (rows : List Row) (v : Str) : List Str := ((rows.find? fun r => decide (r.1 = v)).map (·.2)).getD []
abbrev vsf (rows : List Row) : List Str := rows.map (·.1)
theorem rdf_cons {r : Row} {rows : List Row} {v : Str} : rdf (r :: rows) v = if r.1 = v then r.2 else rdf rows v := by
  unfold rdf
  rw [List.find?_cons]
  by_cases e : r.1 = v <;> simp [e]
class Mn {α : Type} (R : Hp → Addr → α → Prop) : Prop where
  up : ∀ {G G' : Hp} {a : Addr} {x : α}, Sm G G' → R G a x → R G' a x
class Ms {α : Type} (R : Hp → Addr → α → Prop) : Prop where
  up : ∀ {G G' : Hp} {a : Addr} {x : α}, Same G G' → R G a x → R G' a x
instance {α : Type} {R : Hp → Addr → α → Prop} [m : Mn R] : Ms R := ⟨fun s h => m.up s.sm h⟩
def LS (K : PySem.W.Frag) (G : Hp) (a : Addr) (l : List Str) : Prop := SqL K G a (l.map V.str)
def LI (K : PySem.W.Frag) (G : Hp) (a : Addr) (l : List Int) : Prop := SqL K G a (l.map V.int)
def LR (K : PySem.W.Frag) {α : Type} (R : Hp → Addr → α → Prop) (G : Hp) (a : Addr) (l : List α) : Prop := ∃ as : List Addr, SqL K G a (as.map V.ref) ∧ Paired (R G) as l
def T2 (K : PySem.W.Frag) (G : Hp) (t : Addr) (s : Str × Str) : Prop := G t = some (.tup [.str s.1, .str s.2])
def I2 (K : PySem.W.Frag) (G : Hp) (t : Addr) (s : Int × Int) : Prop := G t = some (.tup [.int s.1, .int s.2])
def RowT (K : PySem.W.Frag) (G : Hp) (t : Addr) (r : Row) : Prop := ∃ b, G t = some (.tup [.str r.1, .ref b]) ∧ G b = some (.lst (r.2.map V.str))
def RowKV (K : PySem.W.Frag) (G : Hp) (kv : Key × V) (r : Row) : Prop := kv.1 = Sum.inr r.1 ∧ ∃ a, kv.2 = .ref a ∧ LS K G a r.2
/-- a dict from names to lists of names -/
def RdsAt (K : PySem.W.Frag) (G : Hp) (d : Addr) (rows : List Row) : Prop := ∃ kvs, Rd G d (.dK kvs) ∧ Paired (RowKV K G) kvs rows
/-- a web by its rows -/
def WebAt (K : PySem.W.Frag) (C : Addr) (G : Hp) (x : Addr) (rows : List Row) : Prop := ∃ dx d kvs, G x = some (.ins C dx [("rounds", .ref d)]) ∧ G d = some (.dK kvs) ∧ Paired (RowKV K G) kvs rows
section
variable {K : PySem.W.Frag} {C : Addr} {α : Type}
instance : Mn (SqL K) := ⟨fun s h => s.seq h⟩
instance : Mn (SqT K) := ⟨fun s h => s.seqT h⟩
instance : Mn (LS K) := ⟨fun s h => s.seq h⟩
instance : Mn (LI K) := ⟨fun s h => s.seq h⟩
instance : Mn (T2 K) := ⟨fun s h => s.t _ _ trivial h⟩
instance : Mn (I2 K) := ⟨fun s h => s.t _ _ trivial h⟩
instance {R : Hp → Addr → α → Prop} [m : Mn R] : Mn (LR K R) := ⟨fun s ⟨as, h1, h2⟩ => ⟨as, s.seq h1, Paired.mapP h2 fun _ _ h => m.up s h⟩⟩
instance : Mn (RowT K) := ⟨fun s ⟨b, h1, h2⟩ => ⟨b, s.t _ _ trivial h1, s.t _ _ trivial h2⟩⟩
theorem rowKV_up {G G' : Hp} (s : Sm G G') {kv : Key × V} {r : Row} : RowKV K G kv r → RowKV K G' kv r := fun ⟨e, a, e2, e3⟩ => ⟨e, a, e2, Mn.up s e3⟩
instance : Mn (RdsAt K) := ⟨fun s ⟨kvs, h1, h2⟩ => ⟨kvs, s.r _ _ trivial h1, Paired.mapP h2 fun _ _ h => rowKV_up s h⟩⟩
instance : Ms (WebAt K C) := ⟨fun s ⟨dx, d, kvs, h1, h2, h3⟩ => ⟨dx, d, kvs, s _ _ h1, s _ _ h2, Paired.mapP h3 fun _ _ h => rowKV_up s.sm h⟩⟩
variable {R : Hp → Addr → α → Prop} [Ms R] {G H H' : Hp} {M : List Addr} {a p l : Addr} {x : α}
theorem up (s : Same G H) (h : R G a x) : R H a x := Ms.up s h
theorem upw (s : Same H H') (h : R (wo H M) a x) : R (wo H' M) a x := Ms.up s.wo h
theorem rd (h : R (wo H M) a x) : R H a x := Ms.up wo_same h
theorem ups (s : Same H H') (h : Paired (R (wo H M)) as xs) : Paired (R (wo H' M)) as xs := Paired.mapP h fun _ _ q => upw s q
theorem upp (s : Same G H) (h : Paired (R G) as xs) : Paired (R H) as xs := Paired.mapP h fun _ _ q => up s q
theorem LR.app {as : List Addr} {xs : List α} (h : H l = some (.lst (as.map V.ref))) (h2 : l ∉ M) (h3 : Paired (R (wo H (l :: M))) as xs) : LR K R (wo H M) l xs :=
  ⟨as, .inl (.inl (by rw [wo_out h2]; exact h)), upp wo_pop h3⟩
theorem LS.of {ys : List Str} (h : H l = some (.lst (ys.map V.str))) (h2 : l ∉ M) : LS K (wo H M) l ys := .inl (.inl (by rw [wo_out h2]; exact h))
theorem LI.of {ys : List Int} (h : H l = some (.lst (ys.map V.int))) (h2 : l ∉ M) : LI K (wo H M) l ys := .inl (.inl (by rw [wo_out h2]; exact h))
theorem T2.of {x y : Str} (h : H l = some (.tup [.str x, .str y])) (h2 : l ∉ M) : T2 K (wo H M) l (x, y) := by show wo H M l = _; rw [wo_out h2]; exact h
theorem I2.of {x y : Int} (h : H l = some (.tup [.int x, .int y])) (h2 : l ∉ M) : I2 K (wo H M) l (x, y) := by show wo H M l = _; rw [wo_out h2]; exact h
theorem RowT.of {x : Str} {b : Addr} {ys : List Str} (h : H l = some (.tup [.str x, .ref b])) (h2 : l ∉ M) (h3 : H b = some (.lst (ys.map V.str))) (h4 : b ∉ M) : RowT K (wo H M) l (x, ys) := ⟨b, by rw [wo_out h2]; exact h, by rw [wo_out h4]; exact h3⟩
theorem rowKV_get {v : Str} : ∀ {kvs : List (Key × V)} {rows : List Row}, Paired (RowKV K G) kvs rows → v ∈ vsf rows → ∃ a, valV kvs (Sum.inr v) = some (.ref a) ∧ LS K G a (rdf rows v)
  | _, _, .nil, hv => nomatch hv
  | _, _, .cons (a := kv) (b := r) h t, hv => by
    obtain ⟨e1, a, e2, e3⟩ := h
    by_cases e : r.1 = v
    · refine ⟨a, ?_, ?_⟩
      · rw [valV_pos (by rw [e1, e]), e2]
      · rw [rdf_cons, if_pos e]; exact e3
    · have hv' : v ∈ vsf _ := (List.mem_cons.mp hv).resolve_left fun q => e q.symm
      obtain ⟨b, h1, h2⟩ := rowKV_get t hv'
      refine ⟨b, ?_, ?_⟩
      · rw [valV_neg (by rw [e1]; exact fun q => e (Sum.inr.inj q)), h1]
      · rw [rdf_cons, if_neg e]; exact h2
theorem rowKV_no {v : Str} : ∀ {kvs : List (Key × V)} {rows : List Row}, Paired (RowKV K G) kvs rows → v ∉ vsf rows → valV kvs (Sum.inr v) = none
  | _, _, .nil, hv => rfl
  | _, _, .cons (a := kv) (b := r) h t, hv => by
    obtain ⟨e1, a, e2, e3⟩ := h
    have e : r.1 ≠ v := fun q => hv (by rw [← q]; exact List.mem_cons_self)
    rw [valV_neg (by rw [e1]; exact fun q => e (Sum.inr.inj q))]
    exact rowKV_no t fun q => hv (List.mem_cons_of_mem _ q)
theorem RdsAt.get {d : Addr} {rows : List Row} {v : Str} (h : RdsAt K G d rows) (hv : v ∈ vsf rows) : ∃ a, DGet G d (.str v) (some (.ref a)) ∧ LS K G a (rdf rows v) := by
  obtain ⟨kvs, h1, h2⟩ := h
  obtain ⟨a, e1, e2⟩ := rowKV_get h2 hv
  exact ⟨a, .inl ⟨kvs, Sum.inr v, h1, rfl, e1.symm⟩, e2⟩
theorem RdsAt.no {d : Addr} {rows : List Row} {v : Str} (h : RdsAt K G d rows) (hv : v ∉ vsf rows) : DGet G d (.str v) none := by
  obtain ⟨kvs, h1, h2⟩ := h
  exact .inl ⟨kvs, Sum.inr v, h1, rfl, (rowKV_no h2 hv).symm⟩
/-- the list at a name, once for all heaps that keep this one -/
theorem RdsAt.at {d : Addr} {rows : List Row} {v : Str} (h : RdsAt K G d rows) (hv : v ∈ vsf rows) : ∃ a, LS K G a (rdf rows v) ∧ ∀ H', Sm G H' → DGet H' d (.str v) (some (.ref a)) := by
  obtain ⟨kvs, h1, h2⟩ := h
  obtain ⟨a, e1, e2⟩ := rowKV_get h2 hv
  exact ⟨a, e2, fun H' s => .inl ⟨kvs, Sum.inr v, s.r _ _ trivial h1, rfl, e1.symm⟩⟩
theorem rds_keys : ∀ {kvs : List (Key × V)} {rows : List Row}, Paired (RowKV K G) kvs rows → kvs.map (·.1) = (vsf rows).map Sum.inr
  | _, _, .nil => rfl
  | _, _, .cons h t => by rw [List.map_cons, h.1, rds_keys t]; rfl
end
theorem paired_snoc {α β : Type} {R : α → β → Prop} : ∀ {xs : List α} {ys : List β} {x : α} {y : β}, Paired R xs ys → R x y → Paired R (xs ++ [x]) (ys ++ [y])
  | _, _, _, _, .nil, h => .cons h .nil
  | _, _, _, _, .cons r t, h => .cons r (paired_snoc t h)
/-! comprehensions: what is made stands at D, a list of things that R tells -/
theorem lcM {J : It} {n : Nat} {GG : Hp → Prop} {Y : Nat → Hp → V → Hp → Prop} (w : Walk J n GG Y) {g : TG} {tt : TT} {te : TE} {vs : List Nat} {σ : L2.St} {H1 : Hp} {D : Addr} {Qd : Hp → Prop} {α : Type} {M : List Addr}
    (R : Hp → V → α → Prop) (mono : ∀ G G' v x, Same G G' → R G v x → R G' v x) (zs : List (Option α)) (hD : H1 D = none) (al : Al M H1) (hn : zs.length = n) (hsz : n < sizeLine) (hG : ∀ H, Same H1 H → GG H)
    (hs : ∀ i x z H H' (Ky : V → Hp → Prop) (Kn : Hp → Prop), i < n → zs[i]? = some z → Same H1 H → Al (D :: M) H → Y i H x H' → (∀ y d H4, z = some d → Same H H4 → R (wo H4 (D :: M)) y d → Ky y H4) → (∀ H3, z = none → Same H H3 → Kn H3) →
      g x (wipe σ vs) H' fun σ2 H2 => wipe σ2 vs = wipe σ vs ∧ tt σ2 H2 fun b H3 => if b = true then te σ2 H3 Ky else Kn H3)
    (hd : ∀ ys H, Same H1 H → H D = some (.lst ys) → Paired (R (wo H (D :: M))) ys (zs.filterMap id) → Qd H) :
    ∃ W : Nat → Nat → Hp → Prop, (∃ m, W 0 m (upd H1 D (.lst []))) ∧ ∀ i m H, W i m H →
      (J.stop i H ∧ Qd H) ∨ (J.go i H ∧ ∃ Nx : Hp → Prop, (∀ H', Nx H' → ∃ m', m' < m ∧ W (i + 1) m' H') ∧ ∀ x H', J.yld i H x H' → g x (wipe σ vs) H' fun σ2 H2 => wipe σ2 vs = wipe σ vs ∧ tt σ2 H2 fun b H3 =>
        if b = true then te σ2 H3 fun y H4 => ∃ acc, H4 D = some (.lst acc) ∧ acc.length < sizeLine ∧ Nx (upd H4 D (.lst (acc ++ [y]))) else Nx H3) := by
  have key : ∀ (i : Nat) (ys : List V) (H : Hp), Paired (R (wo H (D :: M))) ys ((zs.take i).filterMap id) → ys.length ≤ i := fun i ys H h => by
    rw [Paired.length h]
    refine Nat.le_trans (List.length_filterMap_le _ _) ?_
    rw [List.length_take]
    omega
  refine lc_it w (fun i H => ∃ ys, Same H1 H ∧ H D = some (.lst ys) ∧ Paired (R (wo H (D :: M))) ys ((zs.take i).filterMap id)) ⟨[], Same.new hD, upd_same, .nil⟩ (fun i H _ ⟨ys, s, _⟩ => hG H s) (fun i x H H' hi ⟨ys, s, hy, hp⟩ y => ?_) (fun H ⟨ys, s, hy, hp⟩ => ?_)
  · obtain ⟨z, hz⟩ : ∃ z, zs[i]? = some z := ⟨_, List.getElem?_eq_getElem (by omega)⟩
    have et : zs.take (i + 1) = zs.take i ++ [z] := by rw [List.take_add_one, hz]; rfl
    refine hs i x z H H' _ _ hi hz s ((al.same s).cons hy) y (fun y d H4 e s4 r => ?_) (fun H3 e s3 => ?_)
    · have hl := key i ys H hp
      refine ⟨ys, s4 _ _ hy, by omega, ys ++ [y], (s.trans s4).mut hD, upd_same, ?_⟩
      rw [wo_mut (by simp), et, List.filterMap_append, e]
      exact paired_snoc (Paired.mapP hp fun v x q => mono _ _ _ _ s4.wo q) r
    · refine ⟨ys, s.trans s3, s3 _ _ hy, ?_⟩
      rw [et, List.filterMap_append, e]
      simpa using Paired.mapP hp fun v x q => mono _ _ _ _ s3.wo q
  · refine hd ys H s hy ?_
    rw [List.take_of_length_le (by omega)] at hp
    exact hp
/-- .. all are kept, each a new or a standing object -/
theorem rV_up {α : Type} {R : Hp → Addr → α → Prop} [Ms R] (G G' : Hp) (v : V) (x : α) (s : Same G G') (h : ∃ a, v = .ref a ∧ R G a x) : ∃ a, v = .ref a ∧ R G' a x := let ⟨a, e, r⟩ := h; ⟨a, e, Ms.up s r⟩
theorem paired_refs {α : Type} {R : Addr → α → Prop} : ∀ {ys : List V} {l : List α}, Paired (fun v x => ∃ a, v = V.ref a ∧ R a x) ys l → ∃ as : List Addr, ys = as.map V.ref ∧ Paired R as l
  | _, _, .nil => ⟨[], rfl, .nil⟩
  | _, _, .cons ⟨a, e, h⟩ t => by
    obtain ⟨as, e2, h2⟩ := paired_refs t
    exact ⟨a :: as, by rw [e, e2]; rfl, .cons h h2⟩
theorem paired_vals {α : Type} {c : α → V} : ∀ {ys : List V} {l : List α}, Paired (fun v x => v = c x) ys l → ys = l.map c
  | _, _, .nil => rfl
  | _, _, .cons e t => by rw [e, paired_vals t]; rfl
theorem filterMap_somes {α : Type} (l : List α) : (l.map some).filterMap id = l := by induction l <;> simp_all
theorem flat_strs (l : List Str) : (l.map V.str).all flatV = true := by
  rw [List.all_map]
  exact List.all_eq_true.mpr fun _ _ => rfl
theorem flat_ints (l : List Int) : (l.map V.int).all flatV = true := by
  rw [List.all_map]
  exact List.all_eq_true.mpr fun _ _ => rfl
theorem eqV_str (a b : Str) : eqV (.str a) (.str b) = decide (a = b) := by
  first | rfl | (unfold eqV; rfl) | (by_cases e : a = b <;> simp [eqV, e])
theorem inV_str (x : Str) (l : List Str) : inV (.str x) (l.map V.str) = decide (x ∈ l) := by
  unfold inV
  rw [List.any_map]
  induction l with
  | nil => rfl
  | cons a r ih =>
    rw [List.any_cons, ih]
    simp only [Function.comp, eqV_str]
    by_cases e : a = x
    · subst e; simp
    · have e' : ¬ x = a := fun q => e q.symm
      simp [e, e']
/-- the place behind the one found -/
theorem nx_at {α : Type} [DecidableEq α] {l : List α} {x : α} (h : x ∈ l) : ∃ j, l[j]? = some x ∧ (∀ m z, m < j → l[m]? = some z → z ≠ x) ∧ j < l.length ∧ l[(j + 1) % l.length]? = some (nx l x) := by
  obtain ⟨A, B, rfl, hA⟩ := mem_split h
  refine ⟨A.length, by simp, fun m z hm hz e => ?_, by simp, ?_⟩
  · rw [List.getElem?_append_left hm] at hz
    rw [e] at hz
    exact hA (List.mem_of_getElem? hz)
  · rw [nx_app hA]
    cases B with
    | nil =>
      have e : (A.length + 1) % (A ++ [x]).length = 0 := by simp
      rw [e]
      cases A <;> simp
    | cons b r =>
      have e : (A.length + 1) % (A ++ x :: b :: r).length = A.length + 1 := Nat.mod_eq_of_lt (by simp)
      rw [e]
      simp

theorem eqV_int (a b : Int) : eqV (.int a) (.int b) = decide (a = b) := by
  first | rfl | (unfold eqV; rfl) | (by_cases e : a = b <;> simp [eqV, e])
theorem inV_int (x : Int) (l : List Int) : inV (.int x) (l.map V.int) = decide (x ∈ l) := by
  unfold inV
  rw [List.any_map]
  induction l with
  | nil => rfl
  | cons a r ih =>
    rw [List.any_cons, ih]
    simp only [Function.comp, eqV_int]
    by_cases e : a = x
    · subst e; simp
    · have e' : ¬ x = a := fun q => e q.symm
      simp [e, e']
/-- xs.index(x), x in xs -/
theorem ixG {α : Type} [DecidableEq α] (c : α → V) (hc : ∀ a b, eqV (c a) (c b) = decide (a = b)) {l : List α} {x : α} (hx : x ∈ l) :
    ∃ j, (l.map c)[j]? = some (c x) ∧ eqV (c x) (c x) = true ∧ (∀ (m : Nat) (z' : V), m < j → (l.map c)[m]? = some z' → eqV z' (c x) = false) ∧ l[j]? = some x ∧ (∀ m z, m < j → l[m]? = some z → z ≠ x) ∧ j < l.length ∧ l[(j + 1) % l.length]? = some (nx l x) := by
  obtain ⟨j, h1, h2, h3, h4⟩ := nx_at hx
  refine ⟨j, ?_, ?_, ?_, h1, h2, h3, h4⟩
  · rw [List.getElem?_map, h1]; rfl
  · rw [hc]; simp
  · intro m z hm hz
    rw [List.getElem?_map] at hz
    cases e : l[m]? with
    | none => rw [e] at hz; cases hz
    | some y =>
      rw [e] at hz
      cases hz
      rw [hc]
      exact decide_eq_false (h2 m y hm e)
theorem ixS {l : List Str} {x : Str} (hx : x ∈ l) : ∃ j, (l.map V.str)[j]? = some (.str x) ∧ eqV (.str x) (.str x) = true ∧ (∀ (m : Nat) (z' : V), m < j → (l.map V.str)[m]? = some z' → eqV z' (.str x) = false) ∧ l[j]? = some x ∧ (∀ m z, m < j → l[m]? = some z → z ≠ x) ∧ j < l.length ∧ l[(j + 1) % l.length]? = some (nx l x) := ixG V.str eqV_str hx
theorem ixI {l : List Int} {x : Int} (hx : x ∈ l) : ∃ j, (l.map V.int)[j]? = some (.int x) ∧ eqV (.int x) (.int x) = true ∧ (∀ (m : Nat) (z' : V), m < j → (l.map V.int)[m]? = some z' → eqV z' (.int x) = false) ∧ l[j]? = some x ∧ (∀ m z, m < j → l[m]? = some z → z ≠ x) ∧ j < l.length ∧ l[(j + 1) % l.length]? = some (nx l x) := ixG V.int eqV_int hx
theorem at_map {α : Type} (c : α → V) {l : List α} {j : Nat} {x : α} {i : Int} (e : i = (j : Int)) (h : l[j]? = some x) : atI (l.map c) i = some (c x) := by
  rw [e]
  exact atI_nat (by rw [List.getElem?_map, h]; rfl)
theorem cast_mod (j n : Nat) : ((j : Int) + 1) % (n : Int) = ((j + 1) % n : Nat) := by
  simp

theorem path_next {β : Type} {f : β → β} {s e : β} {r : List β} (h : Path f s r e) : f s = (r ++ [e]).headD e := by
  cases r with
  | nil => exact h
  | cons a r => exact h.1
theorem dp_strs {K : PySem.W.Frag} {H : Hp} {a : Addr} {l : List Str} (h : LS K H a l) : Dp K H (.ref a) (.list (l.map PyData.str)) := .lst h (dpAll_strs l)
theorem dp_pair {K : PySem.W.Frag} {H : Hp} {a : Addr} {x y : Str} (h : T2 K H a (x, y)) : Dp K H (.ref a) (.tuple [.str x, .str y]) := .tup (SqT.of h) (.cons (.str x) (.cons (.str y) .nil))
theorem eqv_pair (a b c d : Str) : PyData.eqv (.tuple [.str a, .str b]) (.tuple [.str c, .str d]) = decide ((a, b) = (c, d)) := by
  by_cases e1 : a = c <;> by_cases e2 : b = d <;> simp [PyData.eqv, PyData.eqvAll, e1, e2]

/-- a name -/
def Nm (x : Str) : Prop := 1 ≤ x.length ∧ x.length ≤ 8 ∧ ∀ c ∈ x.cps.toList, 97 ≤ c ∧ c ≤ 122
theorem Nm.ok {x : Str} (h : Nm x) : PyData.canLay0 (.str x) = true := by
  show x.cps.all (fun c => decide (c < 0x110000)) = true
  rw [Array.all_eq_true_iff_forall_mem]
  intro c hc
  have := h.2.2 c (by simpa using hc)
  exact decide_eq_true (by omega)
theorem can_strs : ∀ {l : List Str}, (∀ x ∈ l, Nm x) → PyData.canLayAll0 (l.map PyData.str) = true
  | [], _ => rfl
  | x :: r, h => by
    rw [List.map_cons, PyData.canLayAll0, (h x (by simp)).ok, can_strs fun y hy => h y (List.mem_cons_of_mem _ hy)]
    rfl
theorem shaped_strs {l : List Str} (h : ∀ x ∈ l, Nm x) : SeqAt.shaped (.list (l.map PyData.str)) = true := by
  unfold SeqAt.shaped
  rw [PyData.canLay0, can_strs h, PyData.depth, depth_strs]
  rfl
theorem shaped_pair {a b : Str} (ha : Nm a) (hb : Nm b) : SeqAt.shaped (.tuple [.str a, .str b]) = true := by
  unfold SeqAt.shaped
  rw [PyData.canLay0, PyData.canLayAll0, PyData.canLayAll0, PyData.canLayAll0, ha.ok, hb.ok]
  simp [PyData.depth, PyData.depthAll]

theorem cut_from (xs : List V) (j : Nat) : cutV xs (some (j : Int)) none = xs.drop j := by
  unfold cutV
  rw [HT.sIx_nat, HT.sIx_none]
  by_cases h : j ≤ xs.length
  · rw [Nat.min_eq_left h]
    exact List.take_of_length_le (by rw [List.length_drop]; exact Nat.le_refl _)
  · rw [Nat.min_eq_right (by omega), List.drop_of_length_le (Nat.le_refl _), List.drop_of_length_le (by omega)]
    simp
theorem cut_to (xs : List V) (j : Nat) : cutV xs none (some (j : Int)) = xs.take j := by
  unfold cutV
  rw [HT.sIx_nat, HT.sIx_none, List.drop_zero, Nat.sub_zero]
  by_cases h : j ≤ xs.length
  · rw [Nat.min_eq_left h]
  · rw [Nat.min_eq_right (by omega), List.take_of_length_le (Nat.le_refl _), List.take_of_length_le (by omega)]
theorem eqv_strs_nil (l : List Str) : PyData.eqv (.list (l.map PyData.str)) (.list []) = l.isEmpty := by
  cases l <;> simp [PyData.eqv, PyData.eqvAll]
theorem shaped_nil : SeqAt.shaped (.list []) = true := by
  unfold SeqAt.shaped
  simp [PyData.canLay0, PyData.canLayAll0, PyData.depth, PyData.depthAll]
theorem dp_nil {K : PySem.W.Frag} {H : Hp} {a : Addr} (h : SqL K H a []) : Dp K H (.ref a) (.list []) := .lst h .nil
/-! the least of some texts -/
theorem str_ext {a b : Str} (h1 : ¬ a.cps.toList < b.cps.toList) (h2 : ¬ b.cps.toList < a.cps.toList) : a = b := by
  have h : a.cps.toList = b.cps.toList := List.le_antisymm h2 h1
  cases a; cases b
  congr
  exact Array.ext' h
def minS : List Str → Str
  | [] => Str.empty
  | x :: r => r.foldl (fun a y => if y.cps.toList < a.cps.toList then y else a) x
theorem minS_is : ∀ (r : List Str) (x : Str), minS (x :: r) ∈ x :: r ∧ ∀ y ∈ x :: r, ¬ y.cps.toList < (minS (x :: r)).cps.toList
  | [], x => ⟨by simp [minS], fun y hy => by
      have e : y = x := by simpa using hy
      rw [e]
      exact List.lt_irrefl _⟩
  | a :: r, x => by
    have e : minS (x :: a :: r) = minS ((if a.cps.toList < x.cps.toList then a else x) :: r) := rfl
    rw [e]
    by_cases c : a.cps.toList < x.cps.toList
    · rw [if_pos c]
      obtain ⟨h1, h2⟩ := minS_is r a
      refine ⟨List.mem_cons_of_mem _ h1, fun y hy => ?_⟩
      rcases List.mem_cons.mp hy with q | hy
      · rw [q]
        exact fun q => h2 a (by simp) (List.lt_trans c q)
      · exact h2 y hy
    · rw [if_neg c]
      obtain ⟨h1, h2⟩ := minS_is r x
      refine ⟨?_, fun y hy => ?_⟩
      · rcases List.mem_cons.mp h1 with q | q
        · rw [q]; simp
        · exact List.mem_cons_of_mem _ (List.mem_cons_of_mem _ q)
      · rcases List.mem_cons.mp hy with q | hy
        · rw [q]; exact h2 x (by simp)
        · rcases List.mem_cons.mp hy with q | hy
          · rw [q]
            exact fun q => h2 x (by simp) (List.lt_of_le_of_lt (show x.cps.toList ≤ a.cps.toList from c) q)
          · exact h2 y (List.mem_cons_of_mem _ hy)
theorem minS_eq {l : List Str} {m : Str} (h : m ∈ l) (h2 : ∀ y ∈ l, ¬ y.cps.toList < m.cps.toList) : m = minS l := by
  cases l with
  | nil => exact nomatch h
  | cons x r =>
    obtain ⟨h3, h4⟩ := minS_is r x
    exact str_ext (h4 m h) (h2 _ h3)
/-- a round from its least on -/
def fl (l : List Str) : List Str := match l with
  | [] => []
  | _ => l.drop (l.idxOf (minS l)) ++ l.take (l.idxOf (minS l))
theorem idx_first {α : Type} [DecidableEq α] {l : List α} {x : α} {j : Nat} (h1 : l[j]? = some x) (h2 : ∀ m z, m < j → l[m]? = some z → z ≠ x) : l.idxOf x = j := by
  induction l generalizing j with
  | nil => simp at h1
  | cons a r ih =>
    cases j with
    | zero =>
      have e : a = x := by simpa using h1
      rw [e]
      simp
    | succ j =>
      have ne : a ≠ x := h2 0 a (Nat.succ_pos _) rfl
      rw [List.idxOf_cons, ih (j := j) (by simpa using h1) fun m z hm hz => h2 (m + 1) z (by omega) (by simpa using hz)]
      have : (a == x) = false := by simpa using ne
      simp [this]
theorem fl_of {l : List Str} (hne : l ≠ []) {m : Str} {j : Nat} (h : m ∈ l) (h2 : ∀ y ∈ l, ¬ y.cps.toList < m.cps.toList) (h3 : l[j]? = some m) (h4 : ∀ i z, i < j → l[i]? = some z → z ≠ m) : fl l = l.drop j ++ l.take j := by
  have e := minS_eq h h2
  cases l with
  | nil => exact absurd rfl hne
  | cons x r =>
    show (x :: r).drop _ ++ (x :: r).take _ = _
    rw [← e, idx_first h3 h4]
theorem fl_perm (l : List Str) : ∃ L M, l = L ++ M ∧ fl l = M ++ L := by
  cases l with
  | nil => exact ⟨[], [], rfl, rfl⟩
  | cons x r => exact ⟨_, _, (List.take_append_drop ((x :: r).idxOf (minS (x :: r))) (x :: r)).symm, rfl⟩

/-! dicts that only tell which keys there are -/
def tk (l : List Str) : List (Key × V) := l.map fun x => (Sum.inr x, V.bl true)
theorem tk_keys (l : List Str) : (tk l).map (·.1) = l.map Sum.inr := by unfold tk; rw [List.map_map]; rfl
theorem valV_tk (y : Str) : ∀ l : List Str, valV (tk l) (Sum.inr y) = if y ∈ l then some (.bl true) else none
  | [] => rfl
  | a :: r => by
    show valV ((Sum.inr a, V.bl true) :: tk r) (Sum.inr y) = _
    by_cases e : a = y
    · rw [valV_pos (by rw [e]), if_pos (by simp [e])]
    · rw [valV_neg (fun q => e (Sum.inr.inj q)), valV_tk y r]
      have e' : ¬ y = a := fun q => e q.symm
      by_cases h : y ∈ r <;> simp [h, e']
theorem putK_tk {y : Str} {l : List Str} (h : y ∉ l) : putK (tk l) (Sum.inr y) (.bl true) = tk (l ++ [y]) := by
  have hv : valV (tk l) (Sum.inr y) = none := by rw [valV_tk, if_neg h]
  rw [putK_new _ hv]
  unfold tk
  rw [List.map_append]
  rfl
theorem dget_tk {H : Hp} {d : Addr} {l : List Str} (y : Str) (h : H d = some (.dK (tk l))) : DGet H d (.str y) (if y ∈ l then some (.bl true) else none) := by
  rw [← valV_tk]
  exact DGet.k (k := Sum.inr y) h
theorem perm_of_mem {α : Type} [DecidableEq α] {a b : List α} (ha : a.Nodup) (hb : b.Nodup) (h : ∀ x, x ∈ a ↔ x ∈ b) : a.Perm b := by
  induction a generalizing b with
  | nil =>
    cases b with
    | nil => exact .nil
    | cons x r => exact absurd ((h x).mpr (by simp)) (by simp)
  | cons x r ih =>
    obtain ⟨h1, h2⟩ := List.nodup_cons.mp ha
    obtain ⟨A, B, rfl, hA⟩ := mem_split ((h x).mp (by simp))
    refine List.Perm.trans (List.Perm.cons x (ih (b := A ++ B) h2 ?_ fun y => ?_)) List.perm_middle.symm
    · have := (List.perm_middle.nodup_iff).mp hb
      exact (List.nodup_cons.mp this).2
    · have hx : x ∉ A ++ B := by
        have := (List.perm_middle.nodup_iff).mp hb
        exact (List.nodup_cons.mp this).1
      constructor
      · intro hy
        have ne : y ≠ x := fun e => h1 (by rw [← e]; exact hy)
        have := (h y).mp (List.mem_cons_of_mem _ hy)
        simp only [List.mem_append, List.mem_cons] at this ⊢
        rcases this with q | q | q
        · exact .inl q
        · exact absurd q ne
        · exact .inr q
      · intro hy
        have ne : y ≠ x := fun e => hx (by rw [← e]; exact hy)
        have := (h y).mpr (by simp only [List.mem_append, List.mem_cons] at hy ⊢; rcases hy with q | q; exact .inl q; exact .inr (.inr q))
        exact (List.mem_cons.mp this).resolve_left ne
theorem nodup_le {α : Type} [DecidableEq α] : ∀ {a b : List α}, a.Nodup → (∀ x ∈ a, x ∈ b) → a.length ≤ b.length
  | [], _, _, _ => Nat.zero_le _
  | x :: r, b, ha, h => by
    obtain ⟨h1, h2⟩ := List.nodup_cons.mp ha
    obtain ⟨A, B, rfl, hA⟩ := mem_split (h x (by simp))
    have := nodup_le (b := A ++ B) h2 fun y hy => by
      have ne : y ≠ x := fun e => h1 (by rw [← e]; exact hy)
      have q := h y (List.mem_cons_of_mem _ hy)
      simp only [List.mem_append, List.mem_cons] at q ⊢
      rcases q with q | q | q
      · exact .inl q
      · exact absurd q ne
      · exact .inr q
    simp only [List.length_append, List.length_cons] at this ⊢
    omega

theorem mergeK_tk : ∀ (ys l : List Str), (l ++ ys).Nodup → mergeK (tk l) (tk ys) = tk (l ++ ys)
  | [], l, _ => by show tk l = tk (l ++ []); rw [List.append_nil]
  | y :: r, l, h => by
    have hy : y ∉ l := fun q => (List.nodup_append.mp h).2.2 y q y (by simp) rfl
    show mergeK (putK (tk l) (Sum.inr y) (.bl true)) (tk r) = _
    rw [putK_tk hy, mergeK_tk r (l ++ [y]) (by simpa using h)]
    simp
theorem tk_length (l : List Str) : (tk l).length = l.length := by unfold tk; rw [List.length_map]
theorem item_str {l : List Str} {i : Nat} {y : V} (h : (l.map V.str)[i]? = some y) : ∃ u, l[i]? = some u ∧ y = V.str u := by
  rw [List.getElem?_map] at h
  cases e : l[i]? with
  | none => rw [e] at h; cases h
  | some u => rw [e] at h; exact ⟨u, rfl, (Option.some.inj h).symm⟩
theorem item_ref {l : List Addr} {i : Nat} {y : V} (h : (l.map V.ref)[i]? = some y) : ∃ u, l[i]? = some u ∧ y = V.ref u := by
  rw [List.getElem?_map] at h
  cases e : l[i]? with
  | none => rw [e] at h; cases h
  | some u => rw [e] at h; exact ⟨u, rfl, (Option.some.inj h).symm⟩
theorem take_snoc {α : Type} {l : List α} {i : Nat} {u : α} (h : l[i]? = some u) : l.take (i + 1) = l.take i ++ [u] := by rw [List.take_add_one, h]; rfl
end Five
end
section
set_option autoImplicit false
namespace Five
/-! ### a tie taken away -/
section
variable {α : Type} [DecidableEq α]
theorem filter_split {l : List α} {k : α} (hn : l.Nodup) (hk : k ∈ l) : ∃ P S, l = P ++ k :: S ∧ k ∉ P ∧ k ∉ S ∧ l.filter (fun u => decide (u ≠ k)) = P ++ S := by
  obtain ⟨P, S, rfl, hP⟩ := mem_split hk
  have hS : k ∉ S := (List.nodup_cons.mp (List.nodup_append.mp hn).2.1).1
  refine ⟨P, S, rfl, hP, hS, ?_⟩
  rw [List.filter_append, List.filter_cons_of_neg (by simp)]
  congr 1
  · exact List.filter_eq_self.mpr fun a ha => by simpa using fun e : a = k => hP (by rw [← e]; exact ha)
  · exact List.filter_eq_self.mpr fun a ha => by simpa using fun e : a = k => hS (by rw [← e]; exact ha)
theorem nx_cut {l : List α} {k x : α} (hn : l.Nodup) (hk : k ∈ l) (hx : x ∈ l) (hxk : x ≠ k) : (nx l x = k ∧ nx (l.filter fun u => decide (u ≠ k)) x = nx l k) ∨ (nx l x ≠ k ∧ nx (l.filter fun u => decide (u ≠ k)) x = nx l x) := by
  obtain ⟨P, S, e, hP, hS, ef⟩ := filter_split hn hk
  have hxPS : x ∈ P ++ S := by
    rw [e] at hx
    simp at hx ⊢
    rcases hx with q | q | q
    · exact .inl q
    · exact absurd q hxk
    · exact .inr q
  have hnPS : (P ++ S).Nodup := by rw [← ef]; exact hn.sublist List.filter_sublist
  have hkPS : k ∉ P ++ S := by simp [hP, hS]
  obtain ⟨z, hz, h1, h2, h3⟩ := nx_insert hnPS hkPS (List.ne_nil_of_mem hxPS)
  rw [ef, e]
  by_cases hxz : x = z
  · rw [hxz]; exact .inl ⟨h1, h2.symm⟩
  · have := h3 x hxPS hxz
    refine .inr ⟨fun q => hkPS ?_, this.symm⟩
    rw [← q, this]
    exact nx_mem hxPS
structure Cut (vs : List α) (rd rd' : α → List α) (o q : α) : Prop where
  ho : o ∈ vs
  hq : q ∈ rd o
  eo : rd' o = (rd o).filter fun u => decide (u ≠ q)
  eq : rd' q = (rd q).filter fun u => decide (u ≠ o)
  same : ∀ v ∈ vs, v ≠ o → v ≠ q → rd' v = rd v
variable {vs : List α} {rd rd' : α → List α} {o q : α}
theorem Cut.hqv (c : Cut vs rd rd' o q) (w : Wf vs rd) : q ∈ vs ∧ q ≠ o ∧ o ∈ rd q := w.ties o c.ho q c.hq
theorem Cut.symm (c : Cut vs rd rd' o q) (w : Wf vs rd) : Cut vs rd rd' q o := ⟨(c.hqv w).1, (c.hqv w).2.2, c.eq, c.eo, fun v hv h1 h2 => c.same v hv h2 h1⟩
theorem Cut.mem (c : Cut vs rd rd' o q) (w : Wf vs rd) {v u : α} (hv : v ∈ vs) : u ∈ rd' v ↔ u ∈ rd v ∧ (v, u) ≠ (o, q) ∧ (v, u) ≠ (q, o) := by
  have hqo := (c.hqv w).2.1
  by_cases e : v = o
  · subst e
    rw [c.eo, List.mem_filter, decide_eq_true_eq]
    refine and_congr_right fun _ => ⟨fun h => ⟨fun z => h (Prod.mk.inj z).2, fun z => hqo (Prod.mk.inj z).1.symm⟩, fun h z => h.1 (by rw [z])⟩
  · by_cases e2 : v = q
    · subst e2
      rw [c.eq, List.mem_filter, decide_eq_true_eq]
      refine and_congr_right fun _ => ⟨fun h => ⟨fun z => e (Prod.mk.inj z).1, fun z => h (Prod.mk.inj z).2⟩, fun h z => h.2 (by rw [z])⟩
    · rw [c.same v hv e e2]
      exact ⟨fun h => ⟨h, fun z => e (Prod.mk.inj z).1, fun z => e2 (Prod.mk.inj z).1⟩, fun h => h.1⟩
theorem Cut.wf (c : Cut vs rd rd' o q) (w : Wf vs rd) : Wf vs rd' := by
  refine ⟨w.nd, fun v hv => ?_, fun v hv u hu => ?_⟩
  · by_cases e : v = o
    · subst e; rw [c.eo]; exact (w.rn v hv).sublist List.filter_sublist
    · by_cases e2 : v = q
      · subst e2; rw [c.eq]; exact (w.rn v hv).sublist List.filter_sublist
      · rw [c.same v hv e e2]; exact w.rn v hv
  · obtain ⟨h1, h2, h3⟩ := (c.mem w hv).mp hu
    obtain ⟨a, b, d⟩ := w.ties v hv u h1
    refine ⟨a, b, (c.mem w a).mpr ⟨d, fun z => h3 ?_, fun z => h2 ?_⟩⟩
    · rw [(Prod.mk.inj z).1, (Prod.mk.inj z).2]
    · rw [(Prod.mk.inj z).1, (Prod.mk.inj z).2]
theorem Cut.fs (c : Cut vs rd rd' o q) (w : Wf vs rd) {s : α × α} (hs : s ∈ darts vs rd) (h1 : s ≠ (o, q)) (h2 : s ≠ (q, o)) :
    (fs rd s = (o, q) ∧ Five.fs rd' s = fs rd (q, o)) ∨ (fs rd s = (q, o) ∧ Five.fs rd' s = fs rd (o, q)) ∨ (fs rd s ≠ (o, q) ∧ fs rd s ≠ (q, o) ∧ Five.fs rd' s = fs rd s) := by
  obtain ⟨s1, s2⟩ := mem_darts.mp hs
  obtain ⟨t1, t2, t3⟩ := w.ties s.1 s1 s.2 s2
  obtain ⟨hqv, hqo, hoq⟩ := c.hqv w
  by_cases e : s.2 = o
  · have hx : s.1 ∈ rd o := by rw [← e]; exact t3
    have hxq : s.1 ≠ q := fun z => h2 (by rw [← z, ← e])
    unfold Five.fs
    rw [e, c.eo]
    rcases nx_cut (w.rn o c.ho) c.hq hx hxq with ⟨a, b⟩ | ⟨a, b⟩
    · exact .inl ⟨by rw [a], by rw [b]⟩
    · exact .inr (.inr ⟨fun z => a (Prod.mk.inj z).2, fun z => hqo (Prod.mk.inj z).1.symm, by rw [b]⟩)
  · by_cases e2 : s.2 = q
    · have hx : s.1 ∈ rd q := by rw [← e2]; exact t3
      have hxo : s.1 ≠ o := fun z => h1 (by rw [← z, ← e2])
      unfold Five.fs
      rw [e2, c.eq]
      rcases nx_cut (w.rn q hqv) hoq hx hxo with ⟨a, b⟩ | ⟨a, b⟩
      · exact .inr (.inl ⟨by rw [a], by rw [b]⟩)
      · exact .inr (.inr ⟨fun z => hqo (Prod.mk.inj z).1, fun z => a (Prod.mk.inj z).2, by rw [b]⟩)
    · refine .inr (.inr ⟨fun z => e (Prod.mk.inj z).1, fun z => e2 (Prod.mk.inj z).1, ?_⟩)
      unfold Five.fs
      rw [c.same s.2 t1 e e2]
theorem path_cut {β : Type} {f f' : β → β} {a b e e' : β} : ∀ {s : β} {r : List β}, (∀ x ∈ s :: r, x ≠ a ∧ x ≠ b) → (∀ x ∈ s :: r, f x ≠ a → f x ≠ b → f' x = f x) → (∀ x ∈ s :: r, f x = e → f' x = e') → Path f s r e → Path f' s r e'
  | s, [], _, _, h3, p => h3 s (by simp) p
  | s, t :: r, h1, h2, h3, p => by
    have ht := h1 t (by simp)
    refine ⟨?_, path_cut (fun x hx => h1 x (List.mem_cons_of_mem _ hx)) (fun x hx => h2 x (List.mem_cons_of_mem _ hx)) (fun x hx => h3 x (List.mem_cons_of_mem _ hx)) p.2⟩
    rw [h2 s (by simp) (by rw [p.1]; exact ht.1) (by rw [p.1]; exact ht.2)]
    exact p.1
theorem Cut.darts (c : Cut vs rd rd' o q) (w : Wf vs rd) : (darts vs rd).Perm ((o, q) :: (q, o) :: Five.darts vs rd') := by
  obtain ⟨hqv, hqo, hoq⟩ := c.hqv w
  have w' := c.wf w
  refine perm_of_mem (darts_nodup w.nd w.rn) ?_ fun x => ?_
  · refine List.nodup_cons.mpr ⟨fun h => ?_, List.nodup_cons.mpr ⟨fun h => ?_, darts_nodup w'.nd w'.rn⟩⟩
    · rcases List.mem_cons.mp h with z | z
      · exact hqo (Prod.mk.inj z).1.symm
      · exact ((c.mem w c.ho).mp (mem_darts.mp z).2).2.1 rfl
    · exact ((c.mem w hqv).mp (mem_darts.mp h).2).2.2 rfl
  · rw [List.mem_cons, List.mem_cons, mem_darts, mem_darts]
    constructor
    · rintro ⟨h1, h2⟩
      by_cases e : x = (o, q)
      · exact .inl e
      · by_cases e2 : x = (q, o)
        · exact .inr (.inl e2)
        · exact .inr (.inr ⟨h1, (c.mem w h1).mpr ⟨h2, e, e2⟩⟩)
    · rintro (e | e | ⟨h1, h2⟩)
      · rw [e]; exact ⟨c.ho, c.hq⟩
      · rw [e]; exact ⟨hqv, hoq⟩
      · exact ⟨h1, ((c.mem w h1).mp h2).1⟩
theorem fd_turn2 {cs : List (List (α × α))} (h : FD vs rd cs) {s : α × α} (hs : s ∈ darts vs rd) : ∃ T rest, FD vs rd ((s :: T) :: rest) ∧ rest.length + 1 = cs.length := by
  obtain ⟨c, hc, hsc⟩ := fd_find h hs
  obtain ⟨rest, hp⟩ := perm_head hc
  obtain ⟨X, Y, rfl, _⟩ := mem_split hsc
  refine ⟨Y ++ X, rest, ⟨?_, fun d hd => ?_⟩, ?_⟩
  · have h1 : ((s :: (Y ++ X)) :: rest).flatten.Perm ((X ++ s :: Y) :: rest).flatten := by
      rw [List.flatten_cons, List.flatten_cons]
      refine List.Perm.append_right _ ?_
      have := List.perm_append_comm (l₁ := X) (l₂ := s :: Y)
      exact this.symm
    exact (h1.trans hp.symm.flatten).trans h.perm
  · rcases List.mem_cons.mp hd with e | hd
    · rw [e]
      exact cyc_rot (A := X) (B := s :: Y) (h.cyc _ hc)
    · exact h.cyc d (hp.mem_iff.mpr (List.mem_cons_of_mem _ hd))
  · have := hp.length_eq
    simp at this
    omega
theorem lone_cut {l : List α} {x : α} (hn : l.Nodup) (hx : x ∈ l) : (l.filter fun u => decide (u ≠ x)) = [] ↔ nx l x = x := by
  constructor
  · intro h
    have := nx_mem hx
    apply Classical.byContradiction
    intro q
    have : nx l x ∈ l.filter fun u => decide (u ≠ x) := List.mem_filter.mpr ⟨this, by simpa using q⟩
    rw [h] at this
    cases this
  · intro h
    obtain ⟨P, S, e, hP, hS, ef⟩ := filter_split hn hx
    rw [ef]
    rw [e, nx_app hP] at h
    cases S with
    | cons a S => exact absurd (by simpa using h) fun z : a = x => hS (by rw [z]; exact List.mem_cons_self)
    | nil =>
      cases P with
      | cons a P => exact absurd (by simpa using h) fun z : a = x => hP (by rw [z]; exact List.mem_cons_self)
      | nil => rfl
theorem two_perm (hn : vs.Nodup) (ho : o ∈ vs) (hq : q ∈ vs) (hqo : q ≠ o) : ∃ r, vs.Perm (o :: q :: r) ∧ o ∉ r ∧ q ∉ r := by
  obtain ⟨r1, h1⟩ := perm_head ho
  have hn1 := h1.nodup_iff.mp hn
  have hq1 : q ∈ r1 := (List.mem_cons.mp (h1.mem_iff.mp hq)).resolve_left hqo
  obtain ⟨r2, h2⟩ := perm_head hq1
  have hp : vs.Perm (o :: q :: r2) := h1.trans (h2.cons o)
  have hn2 := hp.nodup_iff.mp hn
  obtain ⟨a, b⟩ := List.nodup_cons.mp hn2
  exact ⟨r2, hp, fun z => a (List.mem_cons_of_mem _ z), (List.nodup_cons.mp b).1⟩
theorem Cut.deg (c : Cut vs rd rd' o q) (w : Wf vs rd) : deg rd vs = Five.deg rd' vs + 2 := by
  obtain ⟨hqv, hqo, hoq⟩ := c.hqv w
  obtain ⟨r, hp, ho, hq⟩ := two_perm w.nd c.ho hqv hqo
  have hr : ∀ v ∈ r, rd' v = rd v := fun v hv => c.same v (hp.mem_iff.mpr (by simp [hv])) (fun e => ho (by rw [← e]; exact hv)) (fun e => hq (by rw [← e]; exact hv))
  have dp : ∀ rr : α → List α, Five.deg rr vs = (rr o).length + ((rr q).length + Five.deg rr r) := fun rr => by
    unfold Five.deg
    rw [(hp.map fun v => (rr v).length).sum_nat]
    simp
  have l1 : (rd o).length = (rd' o).length + 1 := by
    obtain ⟨P, S, e, _, _, ef⟩ := filter_split (w.rn o c.ho) c.hq
    rw [c.eo, ef, e]
    simp
    omega
  have l2 : (rd q).length = (rd' q).length + 1 := by
    obtain ⟨P, S, e, _, _, ef⟩ := filter_split (w.rn q hqv) hoq
    rw [c.eq, ef, e]
    simp
    omega
  rw [dp rd, dp rd', deg_congr hr]
  omega
theorem Cut.lone (c : Cut vs rd rd' o q) (w : Wf vs rd) : nlone rd' vs = nlone rd vs + (if rd' o = [] then 1 else 0) + (if rd' q = [] then 1 else 0) := by
  obtain ⟨hqv, hqo, hoq⟩ := c.hqv w
  obtain ⟨r, hp, ho, hq⟩ := two_perm w.nd c.ho hqv hqo
  have hr : ∀ v ∈ r, rd' v = rd v := fun v hv => c.same v (hp.mem_iff.mpr (by simp [hv])) (fun e => ho (by rw [← e]; exact hv)) (fun e => hq (by rw [← e]; exact hv))
  have dp : ∀ rr : α → List α, nlone rr vs = nlone rr r + (if (rr q).isEmpty = true then 1 else 0) + (if (rr o).isEmpty = true then 1 else 0) := fun rr => by
    unfold nlone
    rw [hp.countP_eq, List.countP_cons, List.countP_cons]
  have e1 : (rd o).isEmpty = false := by
    cases h : rd o with
    | nil => have := c.hq; rw [h] at this; cases this
    | cons _ _ => rfl
  have e2 : (rd q).isEmpty = false := by
    cases h : rd q with
    | nil => rw [h] at hoq; cases hoq
    | cons _ _ => rfl
  rw [dp rd, dp rd', nlone_congr hr, e1, e2]
  simp only [List.isEmpty_iff, Bool.false_eq_true, if_false]
  omega
/-- the ways, when a tie is taken away -/
theorem Cut.faces (c : Cut vs rd rd' o q) (w : Wf vs rd) {cs : List (List (α × α))} (F : FD vs rd cs) :
    (∃ cs', FD vs rd' cs' ∧ cs'.length + nlone rd' vs = cs.length + nlone rd vs + 1) ∨
    (∃ cs', FD vs rd' cs' ∧ cs'.length + nlone rd' vs + 1 = cs.length + nlone rd vs ∧ ∀ S : α → Prop, (∀ v u, v ∈ vs → S v → u ∈ rd' v → S u) → S o → S q) := by
  obtain ⟨hqv, hqo, hoq⟩ := c.hqv w
  have hda : (o, q) ∈ Five.darts vs rd := mem_darts.mpr ⟨c.ho, c.hq⟩
  have hdb : (q, o) ∈ Five.darts vs rd := mem_darts.mpr ⟨hqv, hoq⟩
  have hab : (q, o) ≠ (o, q) := fun z => hqo (Prod.mk.inj z).1
  obtain ⟨T, rest, F1, len1⟩ := fd_turn2 F hda
  have hcT : Path (Five.fs rd) (o, q) T (o, q) := F1.cyc ((o, q) :: T) (by simp)
  have hnd : ((o, q) :: T ++ rest.flatten).Nodup := by
    have := F1.perm.nodup_iff.mpr (darts_nodup w.nd w.rn)
    rwa [List.flatten_cons] at this
  have hin : ∀ c' ∈ (((o, q) :: T) :: rest), ∀ x ∈ c', x ∈ Five.darts vs rd := fun c' hc' x hx => fd_in F1 hc' hx
  have lo : rd' o = [] ↔ Five.fs rd (q, o) = (o, q) := by
    rw [c.eo, lone_cut (w.rn o c.ho) c.hq]
    unfold Five.fs
    exact ⟨fun h => by show (o, nx (rd o) q) = _; rw [h], fun h => (Prod.mk.inj h).2⟩
  have lq : rd' q = [] ↔ Five.fs rd (o, q) = (q, o) := by
    rw [c.eq, lone_cut (w.rn q hqv) hoq]
    unfold Five.fs
    exact ⟨fun h => by show (q, nx (rd q) o) = _; rw [h], fun h => (Prod.mk.inj h).2⟩
  -- what stays
  have keep : ∀ x ∈ Five.darts vs rd, x ≠ (o, q) → x ≠ (q, o) → Five.fs rd x ≠ (o, q) → Five.fs rd x ≠ (q, o) → Five.fs rd' x = Five.fs rd x := fun x hx h1 h2 h3 h4 => by
    rcases c.fs w hx h1 h2 with ⟨z, _⟩ | ⟨z, _⟩ | ⟨_, _, z⟩
    · exact absurd z h3
    · exact absurd z h4
    · exact z
  have toa : ∀ x ∈ Five.darts vs rd, x ≠ (o, q) → x ≠ (q, o) → Five.fs rd x = (o, q) → Five.fs rd' x = Five.fs rd (q, o) := fun x hx h1 h2 h3 => by
    rcases c.fs w hx h1 h2 with ⟨_, z⟩ | ⟨z, _⟩ | ⟨z, _⟩
    · exact z
    · rw [h3] at z; exact absurd z.symm hab
    · exact absurd h3 z
  have tob : ∀ x ∈ Five.darts vs rd, x ≠ (o, q) → x ≠ (q, o) → Five.fs rd x = (q, o) → Five.fs rd' x = Five.fs rd (o, q) := fun x hx h1 h2 h3 => by
    rcases c.fs w hx h1 h2 with ⟨z, _⟩ | ⟨_, z⟩ | ⟨_, z, _⟩
    · rw [h3] at z; exact absurd z hab
    · exact z
    · exact absurd h3 z
  have whole : ∀ d ∈ rest, (o, q) ∉ d → (q, o) ∉ d → Cyc (Five.fs rd') d := fun d hd h1 h2 => by
    have hcd := F1.cyc d (List.mem_cons_of_mem _ hd)
    refine cyc_congr (fun x hx => ?_) hcd
    have hs := cyc_step hcd hx
    exact (keep x (hin d (List.mem_cons_of_mem _ hd) x hx) (fun z => h1 (by rw [← z]; exact hx)) (fun z => h2 (by rw [← z]; exact hx)) (fun z => h1 (by rw [← z]; exact hs)) (fun z => h2 (by rw [← z]; exact hs))).symm
  have hdk := c.darts w
  have pieces : ∀ {x : α × α} {X : List (α × α)}, (∀ y ∈ x :: X, y ∈ Five.darts vs rd ∧ y ≠ (o, q) ∧ y ≠ (q, o)) → (Path (Five.fs rd) x X (o, q) → Path (Five.fs rd') x X (Five.fs rd (q, o))) ∧ (Path (Five.fs rd) x X (q, o) → Path (Five.fs rd') x X (Five.fs rd (o, q))) := fun {x X} hX =>
    ⟨fun p => path_cut (a := (o, q)) (b := (q, o)) (fun y hy => (hX y hy).2) (fun y hy h1 h2 => keep y (hX y hy).1 (hX y hy).2.1 (hX y hy).2.2 h1 h2) (fun y hy h => toa y (hX y hy).1 (hX y hy).2.1 (hX y hy).2.2 h) p,
     fun p => path_cut (a := (o, q)) (b := (q, o)) (fun y hy => (hX y hy).2) (fun y hy h1 h2 => keep y (hX y hy).1 (hX y hy).2.1 (hX y hy).2.2 h1 h2) (fun y hy h => tob y (hX y hy).1 (hX y hy).2.1 (hX y hy).2.2 h) p⟩
  by_cases hbT : (q, o) ∈ T
  · -- both on one way
    left
    obtain ⟨X, Y, rfl, hbX⟩ := mem_split hbT
    have hrest : ∀ d ∈ rest, (o, q) ∉ d ∧ (q, o) ∉ d := fun d hd => ⟨fun z => (List.nodup_append.mp hnd).2.2 _ (by simp) _ (List.mem_flatten.mpr ⟨d, hd, z⟩) rfl, fun z => (List.nodup_append.mp hnd).2.2 _ (by simp) _ (List.mem_flatten.mpr ⟨d, hd, z⟩) rfl⟩
    obtain ⟨p1, p2⟩ := path_app.mp hcT
    have nd1 : ((o, q) :: (X ++ (q, o) :: Y)).Nodup := (List.nodup_append.mp hnd).1
    have haXY : (o, q) ∉ X ++ (q, o) :: Y := (List.nodup_cons.mp nd1).1
    have hbY : (q, o) ∉ Y := (List.nodup_cons.mp (List.nodup_append.mp (List.nodup_cons.mp nd1).2).2.1).1
    have okX : ∀ y ∈ X, y ∈ Five.darts vs rd ∧ y ≠ (o, q) ∧ y ≠ (q, o) := fun y hy => ⟨hin ((o, q) :: (X ++ (q, o) :: Y)) List.mem_cons_self y (by simp [hy]), fun z => haXY (by rw [← z]; simp [hy]), fun z => hbX (by rw [← z]; exact hy)⟩
    have okY : ∀ y ∈ Y, y ∈ Five.darts vs rd ∧ y ≠ (o, q) ∧ y ≠ (q, o) := fun y hy => ⟨hin ((o, q) :: (X ++ (q, o) :: Y)) List.mem_cons_self y (by simp [hy]), fun z => haXY (by rw [← z]; simp [hy]), fun z => hbY (by rw [← z]; exact hy)⟩
    have cX : ∀ d ∈ (if X = [] then [] else [X] : List (List (α × α))), Cyc (Five.fs rd') d := fun d hd => by
      cases X with
      | nil => rw [if_pos rfl] at hd; cases hd
      | cons x X =>
        rw [if_neg (by simp), List.mem_singleton] at hd
        subst hd
        have := (pieces okX).2 p1.2
        rw [p1.1] at this
        exact this
    have cY : ∀ d ∈ (if Y = [] then [] else [Y] : List (List (α × α))), Cyc (Five.fs rd') d := fun d hd => by
      cases Y with
      | nil => rw [if_pos rfl] at hd; cases hd
      | cons y Y =>
        rw [if_neg (by simp), List.mem_singleton] at hd
        subst hd
        have := (pieces okY).1 p2.2
        rw [p2.1] at this
        exact this
    have eX : (rd' q = []) ↔ X = [] := by
      rw [lq]
      cases X with
      | nil => exact ⟨fun _ => rfl, fun _ => p1⟩
      | cons x X =>
        refine ⟨fun z => ?_, fun z => by cases z⟩
        rw [p1.1] at z
        exact absurd z (okX x (by simp)).2.2
    have eY : (rd' o = []) ↔ Y = [] := by
      rw [lo]
      cases Y with
      | nil => exact ⟨fun _ => rfl, fun _ => p2⟩
      | cons y Y =>
        refine ⟨fun z => ?_, fun z => by cases z⟩
        rw [p2.1] at z
        exact absurd z (okY y (by simp)).2.1
    refine ⟨(if X = [] then [] else [X]) ++ ((if Y = [] then [] else [Y]) ++ rest), ⟨?_, fun d hd => ?_⟩, ?_⟩
    · have h1 : ((o, q) :: (q, o) :: ((if X = [] then [] else [X] : List (List (α × α))) ++ ((if Y = [] then [] else [Y]) ++ rest)).flatten).Perm ((o, q) :: (q, o) :: Five.darts vs rd') := by
        refine List.Perm.trans ?_ hdk
        refine List.Perm.trans ?_ F1.perm
        have f1 : (if X = [] then [] else [X] : List (List (α × α))).flatten = X := by cases X <;> simp
        have f2 : (if Y = [] then [] else [Y] : List (List (α × α))).flatten = Y := by cases Y <;> simp
        rw [List.flatten_append, List.flatten_append, f1, f2, List.flatten_cons, List.cons_append]
        refine List.Perm.cons _ ?_
        rw [List.append_assoc, List.cons_append]
        exact List.perm_middle.symm
      exact (List.Perm.cons_inv (List.Perm.cons_inv h1))
    · rcases List.mem_append.mp hd with z | z
      · exact cX d z
      · rcases List.mem_append.mp z with z | z
        · exact cY d z
        · exact whole d z (hrest d z).1 (hrest d z).2
    · rw [c.lone w, List.length_append, List.length_append]
      by_cases x0 : X = [] <;> by_cases y0 : Y = [] <;> simp [x0, y0, eX, eY] <;> omega
  · -- on two ways
    right
    have hbr : (q, o) ∈ rest.flatten := by
      have := F1.perm.mem_iff.mpr hdb
      rw [List.flatten_cons] at this
      rcases List.mem_append.mp this with z | z
      · rcases List.mem_cons.mp z with z | z
        · exact absurd z hab
        · exact absurd z hbT
      · exact z
    obtain ⟨c2, hc2, hbc2⟩ := List.mem_flatten.mp hbr
    obtain ⟨r2, hp2⟩ := perm_head hc2
    obtain ⟨X, Y, rfl, hbX⟩ := mem_split hbc2
    have hcy2 : Path (Five.fs rd) (q, o) (Y ++ X) (q, o) := cyc_rot (A := X) (B := (q, o) :: Y) (F1.cyc _ (List.mem_cons_of_mem _ hc2))
    have hperm : ((o, q) :: T ++ ((q, o) :: (Y ++ X) ++ r2.flatten)).Perm (Five.darts vs rd) := by
      refine List.Perm.trans ?_ F1.perm
      rw [List.flatten_cons]
      refine List.Perm.append_left _ ?_
      refine List.Perm.trans ?_ hp2.flatten.symm
      rw [List.flatten_cons]
      refine List.Perm.append_right _ ?_
      have := List.perm_append_comm (l₁ := X) (l₂ := (q, o) :: Y)
      exact this.symm
    have hnd2 := hperm.nodup_iff.mpr (darts_nodup w.nd w.rn)
    generalize Y ++ X = U at *
    obtain ⟨n1, n2, n3⟩ := List.nodup_append.mp hnd2
    obtain ⟨n4, n5, n6⟩ := List.nodup_append.mp n2
    have hinT : ∀ y ∈ T, y ∈ Five.darts vs rd ∧ y ≠ (o, q) ∧ y ≠ (q, o) := fun y hy => ⟨hperm.mem_iff.mp (by simp [hy]), fun z => (List.nodup_cons.mp n1).1 (by rw [← z]; exact hy), fun z => hbT (by rw [← z]; exact hy)⟩
    have hinU : ∀ y ∈ U, y ∈ Five.darts vs rd ∧ y ≠ (o, q) ∧ y ≠ (q, o) := fun y hy => ⟨hperm.mem_iff.mp (by simp [hy]), fun z => n3 (o, q) (by simp) y (by simp [hy]) z.symm, fun z => (List.nodup_cons.mp n4).1 (by rw [← z]; exact hy)⟩
    have hr2 : ∀ d ∈ r2, (o, q) ∉ d ∧ (q, o) ∉ d := fun d hd => ⟨fun z => n3 (o, q) (by simp) (o, q) (by simp; exact .inr (.inr ⟨d, hd, z⟩)) rfl, fun z => n6 (q, o) (by simp) (q, o) (List.mem_flatten.mpr ⟨d, hd, z⟩) rfl⟩
    cases T with
    | nil =>
      exfalso
      have z : Five.fs rd (o, q) = (o, q) := hcT
      unfold Five.fs at z
      exact hqo (Prod.mk.inj z).1
    | cons x T =>
      cases U with
      | nil =>
        exfalso
        have z : Five.fs rd (q, o) = (q, o) := hcy2
        unfold Five.fs at z
        exact hqo (Prod.mk.inj z).1.symm
      | cons y U =>
        have e1 : ¬ rd' o = [] := fun z => by
          rw [lo, hcy2.1] at z
          exact (hinU y (by simp)).2.1 z
        have e2 : ¬ rd' q = [] := fun z => by
          rw [lq, hcT.1] at z
          exact (hinT x (by simp)).2.2 z
        have q1 := (pieces hinT).1 hcT.2
        have q2 := (pieces hinU).2 hcy2.2
        rw [hcy2.1] at q1
        rw [hcT.1] at q2
        refine ⟨((x :: T) ++ (y :: U)) :: r2, ⟨?_, fun d hd => ?_⟩, ?_, fun S hS ho => ?_⟩
        · have h1 : ((o, q) :: (q, o) :: (((x :: T) ++ (y :: U)) :: r2).flatten).Perm ((o, q) :: (q, o) :: Five.darts vs rd') := by
            refine List.Perm.trans ?_ hdk
            refine List.Perm.trans ?_ hperm
            rw [List.flatten_cons, List.cons_append]
            refine List.Perm.cons _ ?_
            show ((q, o) :: (((x :: T) ++ (y :: U)) ++ r2.flatten)).Perm ((x :: T) ++ (q, o) :: ((y :: U) ++ r2.flatten))
            rw [List.append_assoc]
            exact List.perm_middle.symm
          exact List.Perm.cons_inv (List.Perm.cons_inv h1)
        · rcases List.mem_cons.mp hd with z | z
          · rw [z]
            exact path_app.mpr ⟨q1, q2⟩
          · have zr : d ∈ rest := hp2.mem_iff.mpr (List.mem_cons_of_mem _ z)
            exact whole d zr (hr2 d z).1 (hr2 d z).2
        · rw [c.lone w, if_neg e1, if_neg e2]
          have := hp2.length_eq
          simp at this ⊢
          omega
        · have w' := c.wf w
          have go : ∀ {s : α × α} {r : List (α × α)}, (∀ y ∈ s :: r, y ∈ Five.darts vs rd ∧ y ≠ (o, q) ∧ y ≠ (q, o)) → S s.1 → Path (Five.fs rd) s r (q, o) → S q := by
            intro s r
            induction r generalizing s with
            | nil =>
              intro hh hs p
              obtain ⟨a1, a2, a3⟩ := hh s (by simp)
              obtain ⟨b1, b2⟩ := mem_darts.mp a1
              have h2 : S s.2 := hS s.1 s.2 b1 hs ((c.mem w b1).mpr ⟨b2, a2, a3⟩)
              have p : Five.fs rd s = (q, o) := p
              unfold Five.fs at p
              rw [← (Prod.mk.inj p).1]
              exact h2
            | cons t r ih =>
              intro hh hs p
              obtain ⟨a1, a2, a3⟩ := hh s (by simp)
              obtain ⟨b1, b2⟩ := mem_darts.mp a1
              have h2 : S s.2 := hS s.1 s.2 b1 hs ((c.mem w b1).mpr ⟨b2, a2, a3⟩)
              refine ih (fun y hy => hh y (List.mem_cons_of_mem _ hy)) ?_ p.2
              have p1 : Five.fs rd s = t := p.1
              rw [← p1]
              exact h2
          refine go hinU ?_ hcy2.2
          have p1 : Five.fs rd (q, o) = y := hcy2.1
          rw [← p1]
          exact ho
end
end Five
end
section
set_option autoImplicit false
namespace Five
section
variable {α : Type} [DecidableEq α] {vs : List α} {rd rd' : α → List α} {o q : α}
/-- come to by ties from o -/
def Rch (vs : List α) (rd : α → List α) (o x : α) : Prop := ∀ S : α → Prop, (∀ v u, v ∈ vs → S v → u ∈ rd v → S u) → S o → S x
theorem Rch.step {v u : α} (h : Rch vs rd o v) (hv : v ∈ vs) (hu : u ∈ rd v) : Rch vs rd o u := fun S hS ho => hS v u hv (h S hS ho) hu
theorem Rch.refl : Rch vs rd o o := fun _ _ h => h
theorem Cut.part (c : Cut vs rd rd' o q) (w : Wf vs rd) {c0 : List α} (hsub : ∀ v ∈ c0, v ∈ vs) (shut : ∀ v ∈ c0, ∀ u ∈ rd v, u ∈ c0) (conn : ∀ S : α → Prop, (∀ v u, v ∈ c0 → S v → u ∈ rd v → S u) → ∀ v ∈ c0, S v → ∀ u ∈ c0, S u)
    (ho : o ∈ c0) (hq : q ∈ c0) {A : α → Prop} (cA : ∀ v u, v ∈ c0 → A v → u ∈ rd' v → A u) (cB : ∀ v u, v ∈ c0 → ¬ A v → u ∈ rd' v → ¬ A u) (ao : A o) (aq : ¬ A q) :
    ∀ S : α → Prop, (∀ v u, v ∈ c0 → A v → S v → u ∈ rd' v → S u) → ∀ v ∈ c0, A v → S v → ∀ u ∈ c0, A u → S u := by
  intro S hS v hv av sv u hu au
  have sub : ∀ x ∈ c0, ∀ y ∈ rd x, y ∈ rd' x ∨ (x = o ∧ y = q) ∨ (x = q ∧ y = o) := fun x hx y hy => by
    by_cases e1 : (x, y) = (o, q)
    · exact .inr (.inl ⟨(Prod.mk.inj e1).1, (Prod.mk.inj e1).2⟩)
    · by_cases e2 : (x, y) = (q, o)
      · exact .inr (.inr ⟨(Prod.mk.inj e2).1, (Prod.mk.inj e2).2⟩)
      · exact .inl ((c.mem w (hsub x hx)).mpr ⟨hy, e1, e2⟩)
  have so : S o := by
    apply Classical.byContradiction
    intro nso
    have := conn (fun x => A x ∧ S x) (fun x y hx ⟨a, b⟩ hy => by
      rcases sub x hx y hy with z | ⟨z, _⟩ | ⟨z, _⟩
      · exact ⟨cA x y hx a z, hS x y hx a b z⟩
      · rw [z] at b; exact absurd b nso
      · rw [z] at a; exact absurd a aq) v hv ⟨av, sv⟩ q hq
    exact aq this.1
  have := conn (fun x => (A x ∧ S x) ∨ ¬ A x) (fun x y hx h hy => by
    rcases sub x hx y hy with z | ⟨_, z⟩ | ⟨_, z⟩
    · rcases h with ⟨a, b⟩ | a
      · exact .inl ⟨cA x y hx a z, hS x y hx a b z⟩
      · exact .inr (cB x y hx a z)
    · rw [z]; exact .inr aq
    · rw [z]; exact .inl ⟨ao, so⟩) v hv (.inl ⟨av, sv⟩) u hu
  rcases this with ⟨_, z⟩ | z
  · exact z
  · exact absurd au z
/-- the pieces, when a tie is taken away -/
theorem Cut.parts (c : Cut vs rd rd' o q) (w : Wf vs rd) {ps : List (List α)} (Cd : CD vs rd ps) :
    (Rch vs rd' o q ∧ CD vs rd' ps) ∨ ∃ ps', CD vs rd' ps' ∧ ps'.length = ps.length + 1 ∧ ¬ Rch vs rd' o q := by
  obtain ⟨hqv, hqo, hoq⟩ := c.hqv w
  have w' := c.wf w
  have hsub : ∀ d ∈ ps, ∀ v ∈ d, v ∈ vs := fun d hd v hv => Cd.perm.mem_iff.mp (List.mem_flatten.mpr ⟨d, hd, hv⟩)
  have less : ∀ v ∈ vs, ∀ u ∈ rd' v, u ∈ rd v := fun v hv u hu => ((c.mem w hv).mp hu).1
  have sub : ∀ x ∈ vs, ∀ y ∈ rd x, y ∈ rd' x ∨ (x = o ∧ y = q) ∨ (x = q ∧ y = o) := fun x hx y hy => by
    by_cases e1 : (x, y) = (o, q)
    · exact .inr (.inl ⟨(Prod.mk.inj e1).1, (Prod.mk.inj e1).2⟩)
    · by_cases e2 : (x, y) = (q, o)
      · exact .inr (.inr ⟨(Prod.mk.inj e2).1, (Prod.mk.inj e2).2⟩)
      · exact .inl ((c.mem w hx).mpr ⟨hy, e1, e2⟩)
  by_cases hR : Rch vs rd' o q
  · refine .inl ⟨hR, Cd.perm, fun d hd v hv u hu => Cd.shut d hd v hv u (less v (hsub d hd v hv) u hu), fun d hd => ⟨(Cd.conn d hd).1, fun S hS => (Cd.conn d hd).2 S fun v u hv sv hu => ?_⟩⟩
    rcases sub v (hsub d hd v hv) u hu with z | ⟨z1, z2⟩ | ⟨z1, z2⟩
    · exact hS v u hv sv z
    · subst z1
      subst z2
      exact (hR (fun x => x ∈ d ∧ S x) (fun x y hx ⟨a, b⟩ hy => ⟨Cd.shut d hd x a y (less x hx y hy), hS x y a b hy⟩) ⟨hv, sv⟩).2
    · subst z1
      subst z2
      apply Classical.byContradiction
      intro nso
      have huv : u ∈ d := Cd.shut d hd v hv u hu
      have := (hR (fun x => x ∈ d ∧ ¬ S x) (fun x y hx ⟨a, b⟩ hy => by
        have hyd := Cd.shut d hd x a y (less x hx y hy)
        exact ⟨hyd, fun sy => b (hS y x hyd sy (w'.ties x hx y hy).2.2)⟩) ⟨huv, nso⟩).2
      exact this sv
  · right
    obtain ⟨c0, hc0, ho0⟩ := List.mem_flatten.mp (Cd.perm.mem_iff.mpr c.ho)
    have hq0 : q ∈ c0 := Cd.shut c0 hc0 o ho0 q c.hq
    obtain ⟨rest, hp⟩ := perm_head hc0
    have hnd : (c0 :: rest).flatten.Nodup := hp.flatten.nodup_iff.mp (Cd.perm.nodup_iff.mpr w.nd)
    have apart : ∀ d ∈ rest, ∀ x ∈ c0, x ∉ d := fun d hd x hx => nodup_flatten_apart hnd hd hx
    have hc0n : c0.Nodup := by
      rw [List.flatten_cons] at hnd
      exact (List.nodup_append.mp hnd).1
    haveI : DecidablePred (Rch vs rd' o) := fun x => Classical.propDecidable _
    have cA : ∀ v u, v ∈ c0 → Rch vs rd' o v → u ∈ rd' v → Rch vs rd' o u := fun v u hv h hu => h.step (hsub c0 hc0 v hv) hu
    have cB : ∀ v u, v ∈ c0 → ¬ Rch vs rd' o v → u ∈ rd' v → ¬ Rch vs rd' o u := fun v u hv h hu r => by
      obtain ⟨a, _, b⟩ := w'.ties v (hsub c0 hc0 v hv) u hu
      exact h (r.step a b)
    have p1 := c.part w (hsub c0 hc0) (Cd.shut c0 hc0) (Cd.conn c0 hc0).2 ho0 hq0 (A := Rch vs rd' o) cA cB .refl hR
    have p2 := (c.symm w).part w (hsub c0 hc0) (Cd.shut c0 hc0) (Cd.conn c0 hc0).2 hq0 ho0 (A := fun x => ¬ Rch vs rd' o x) cB (fun v u hv h hu => fun z => z (cA v u hv (Classical.not_not.mp h) hu)) hR (fun z => z .refl)
    refine ⟨(c0.filter fun x => decide (Rch vs rd' o x)) :: (c0.filter fun x => decide (¬ Rch vs rd' o x)) :: rest, ⟨?_, fun d hd v hv u hu => ?_, fun d hd => ?_⟩, ?_, hR⟩
    · refine List.Perm.trans ?_ (hp.flatten.symm.trans Cd.perm)
      rw [List.flatten_cons, List.flatten_cons, List.flatten_cons, ← List.append_assoc]
      refine List.Perm.append_right _ ?_
      refine perm_of_mem ?_ hc0n fun x => ?_
      · refine List.nodup_append.mpr ⟨hc0n.sublist List.filter_sublist, hc0n.sublist List.filter_sublist, fun a ha b hb e => ?_⟩
        subst e
        exact (of_decide_eq_true (List.mem_filter.mp hb).2) (of_decide_eq_true (List.mem_filter.mp ha).2)
      · rw [List.mem_append, List.mem_filter, List.mem_filter, decide_eq_true_eq, decide_eq_true_eq]
        constructor
        · rintro (z | z) <;> exact z.1
        · intro z
          by_cases r : Rch vs rd' o x
          · exact .inl ⟨z, r⟩
          · exact .inr ⟨z, r⟩
    · rcases List.mem_cons.mp hd with e | hd
      · subst e
        obtain ⟨a, b⟩ := List.mem_filter.mp hv
        have b := of_decide_eq_true b
        exact List.mem_filter.mpr ⟨Cd.shut c0 hc0 v a u (less v (hsub c0 hc0 v a) u hu), decide_eq_true (cA v u a b hu)⟩
      · rcases List.mem_cons.mp hd with e | hd
        · subst e
          obtain ⟨a, b⟩ := List.mem_filter.mp hv
          have b := of_decide_eq_true b
          exact List.mem_filter.mpr ⟨Cd.shut c0 hc0 v a u (less v (hsub c0 hc0 v a) u hu), decide_eq_true (cB v u a b hu)⟩
        · have hd' : d ∈ ps := hp.mem_iff.mpr (List.mem_cons_of_mem _ hd)
          exact Cd.shut d hd' v hv u (less v (hsub d hd' v hv) u hu)
    · rcases List.mem_cons.mp hd with e | hd
      · subst e
        refine ⟨List.ne_nil_of_mem (List.mem_filter.mpr ⟨ho0, decide_eq_true .refl⟩), fun S hS v hv sv u hu => ?_⟩
        obtain ⟨a, b⟩ := List.mem_filter.mp hv
        obtain ⟨a2, b2⟩ := List.mem_filter.mp hu
        exact p1 S (fun x y hx ax sx hy => hS x y (List.mem_filter.mpr ⟨hx, decide_eq_true ax⟩) sx hy) v a (of_decide_eq_true b) sv u a2 (of_decide_eq_true b2)
      · rcases List.mem_cons.mp hd with e | hd
        · subst e
          refine ⟨List.ne_nil_of_mem (List.mem_filter.mpr ⟨hq0, decide_eq_true hR⟩), fun S hS v hv sv u hu => ?_⟩
          obtain ⟨a, b⟩ := List.mem_filter.mp hv
          obtain ⟨a2, b2⟩ := List.mem_filter.mp hu
          exact p2 S (fun x y hx ax sx hy => hS x y (List.mem_filter.mpr ⟨hx, decide_eq_true ax⟩) sx hy) v a (of_decide_eq_true b) sv u a2 (of_decide_eq_true b2)
        · have hd' : d ∈ ps := hp.mem_iff.mpr (List.mem_cons_of_mem _ hd)
          refine ⟨(Cd.conn d hd').1, fun S hS => (Cd.conn d hd').2 S fun v u hv sv hu => ?_⟩
          rcases sub v (hsub d hd' v hv) u hu with z | ⟨z, _⟩ | ⟨z, _⟩
          · exact hS v u hv sv z
          · exact absurd hv (by rw [z]; exact apart d hd o ho0)
          · exact absurd hv (by rw [z]; exact apart d hd q hq0)
    · have := hp.length_eq
      simp at this ⊢
      omega
/-- the count never grows -/
theorem Cut.step (c : Cut vs rd rd' o q) (w : Wf vs rd) {cs : List (List (α × α))} {ps : List (List α)} (F : FD vs rd cs) (Cd : CD vs rd ps) :
    ∃ cs' ps', FD vs rd' cs' ∧ CD vs rd' ps' ∧ 4 * ps'.length + Five.deg rd' vs + 2 * (cs.length + nlone rd vs) ≤ 4 * ps.length + Five.deg rd vs + 2 * (cs'.length + nlone rd' vs) := by
  have hd := c.deg w
  rcases c.faces w F with ⟨cs', F', e1⟩ | ⟨cs', F', e1, hr⟩
  · rcases c.parts w Cd with ⟨_, Cd'⟩ | ⟨ps', Cd', e2, _⟩
    · exact ⟨cs', ps, F', Cd', by omega⟩
    · exact ⟨cs', ps', F', Cd', by omega⟩
  · rcases c.parts w Cd with ⟨_, Cd'⟩ | ⟨ps', Cd', e2, hn⟩
    · exact ⟨cs', ps, F', Cd', by omega⟩
    · exact absurd hr hn
def cutR (rd : α → List α) (o q : α) (v : α) : List α := if v = o then (rd o).filter (fun u => decide (u ≠ q)) else if v = q then (rd q).filter (fun u => decide (u ≠ o)) else rd v
theorem cutR_cut (w : Wf vs rd) (ho : o ∈ vs) (hq : q ∈ rd o) : Cut vs rd (cutR rd o q) o q := by
  have hqo := (w.ties o ho q hq).2.1
  exact ⟨ho, hq, if_pos rfl, by unfold cutR; rw [if_neg hqo, if_pos rfl], fun v _ h1 h2 => by unfold cutR; rw [if_neg h1, if_neg h2]⟩
theorem flatten_short {β : Type} : ∀ {ps : List (List β)}, (∀ c ∈ ps, c.length ≤ 1) → ps.flatten.length ≤ ps.length
  | [], _ => by simp
  | c :: ps, h => by
    rw [List.flatten_cons, List.length_append, List.length_cons]
    have := h c List.mem_cons_self
    have := flatten_short (ps := ps) fun d hd => h d (List.mem_cons_of_mem _ hd)
    omega
/-- Euler: never more -/
theorem euler_le : ∀ (n : Nat) {rd : α → List α} {cs : List (List (α × α))} {ps : List (List α)}, deg rd vs = n → Wf vs rd → FD vs rd cs → CD vs rd ps → 2 * vs.length + 2 * (cs.length + nlone rd vs) ≤ deg rd vs + 4 * ps.length := by
  intro n
  induction n using Nat.strongRecOn with
  | ind n ih =>
    intro rd cs ps hn w F Cd
    by_cases h : ∃ v ∈ vs, rd v ≠ []
    · obtain ⟨v, hv, hne⟩ := h
      obtain ⟨u, hu⟩ := List.exists_mem_of_ne_nil _ hne
      have c := cutR_cut w hv hu
      obtain ⟨cs', ps', F', Cd', e⟩ := c.step w F Cd
      have hd := c.deg w
      have := ih (deg (cutR rd v u) vs) (by omega) rfl (c.wf w) F' Cd'
      omega
    · have hall : ∀ v ∈ vs, rd v = [] := fun v hv => Classical.byContradiction fun q => h ⟨v, hv, q⟩
      have hdarts : darts vs rd = [] := by
        unfold darts
        rw [List.flatMap_eq_nil_iff]
        intro v hv
        rw [hall v hv]; rfl
      have hcs : cs = [] := by
        cases cs with
        | nil => rfl
        | cons d cs =>
          have hp := F.perm
          rw [hdarts] at hp
          have := hp.eq_nil
          rw [List.flatten_cons] at this
          exact absurd (List.append_eq_nil_iff.mp this).1 (cyc_ne (F.cyc d List.mem_cons_self))
      have hlone : nlone rd vs = vs.length := by
        unfold nlone
        rw [List.countP_eq_length]
        intro v hv
        rw [hall v hv]; rfl
      have hps : vs.length ≤ ps.length := by
        rw [← Cd.perm.length_eq]
        refine flatten_short fun d hd => ?_
        have hdn : d.Nodup := by
          obtain ⟨rest, hp⟩ := perm_head hd
          have := hp.flatten.nodup_iff.mp (Cd.perm.nodup_iff.mpr w.nd)
          rw [List.flatten_cons] at this
          exact (List.nodup_append.mp this).1
        cases d with
        | nil => simp
        | cons x d =>
          have hsub : ∀ y ∈ x :: d, y ∈ vs := fun y hy => Cd.perm.mem_iff.mp (List.mem_flatten.mpr ⟨_, hd, hy⟩)
          have hx := (Cd.conn _ hd).2 (fun y => y = x) (fun a b ha hb hab => by rw [hall a (hsub a ha)] at hab; cases hab) x List.mem_cons_self rfl
          cases d with
          | nil => simp
          | cons y d =>
            have := hx y (by simp)
            rw [this] at hdn
            exact absurd List.mem_cons_self (List.nodup_cons.mp hdn).1
      rw [hcs, hlone]
      simp
      omega
/-! ### piece by piece -/
theorem sub_flat {β : Type} {l m : List (List β)} (h : l.Sublist m) : l.flatten.Sublist m.flatten := by
  induction h with
  | slnil => exact List.Sublist.refl _
  | cons a _ ih => rw [List.flatten_cons]; exact ih.trans (List.sublist_append_right _ _)
  | cons_cons a _ ih => rw [List.flatten_cons, List.flatten_cons]; exact List.Sublist.append (List.Sublist.refl _) ih
theorem len_sum {β : Type} : ∀ c : List β, c.length = (c.map fun _ => 1).sum
  | [] => rfl
  | a :: c => by rw [List.map_cons, List.sum_cons, List.length_cons, len_sum c]; omega
theorem wf_part (w : Wf vs rd) {c : List α} (hn : c.Nodup) (hsub : ∀ v ∈ c, v ∈ vs) (shut : ∀ v ∈ c, ∀ u ∈ rd v, u ∈ c) : Wf c rd :=
  ⟨hn, fun v hv => w.rn v (hsub v hv), fun v hv u hu => ⟨shut v hv u hu, (w.ties v (hsub v hv) u hu).2⟩⟩
theorem fd_part (w : Wf vs rd) {cs : List (List (α × α))} (F : FD vs rd cs) {c : List α} (hn : c.Nodup) (hsub : ∀ v ∈ c, v ∈ vs) (shut : ∀ v ∈ c, ∀ u ∈ rd v, u ∈ c) :
    FD c rd (cs.filter fun f => f.any fun s => decide (s.1 ∈ c)) ∧ (cs.filter fun f => f.any fun s => decide (s.1 ∈ c)).length = nfc cs c := by
  refine ⟨⟨?_, fun d hd => F.cyc d (List.mem_filter.mp hd).1⟩, by unfold nfc; rw [List.countP_eq_length_filter]⟩
  have hnf : cs.flatten.Nodup := F.perm.nodup_iff.mpr (darts_nodup w.nd w.rn)
  refine perm_of_mem (hnf.sublist (sub_flat List.filter_sublist)) (darts_nodup hn fun v hv => w.rn v (hsub v hv)) fun x => ?_
  rw [mem_darts, List.mem_flatten]
  constructor
  · rintro ⟨d, hd, hx⟩
    obtain ⟨h1, h2⟩ := List.mem_filter.mp hd
    obtain ⟨s, hs, hsc⟩ := List.any_eq_true.mp h2
    have := cyc_shut (vs := vs) shut (fun y hy => fd_in F h1 hy) (F.cyc d h1) hs (of_decide_eq_true hsc) x hx
    exact ⟨this, (mem_darts.mp (fd_in F h1 hx)).2⟩
  · rintro ⟨h1, h2⟩
    obtain ⟨d, hd, hx⟩ := fd_find F (mem_darts.mpr ⟨hsub _ h1, h2⟩)
    exact ⟨d, List.mem_filter.mpr ⟨hd, List.any_eq_true.mpr ⟨x, hx, decide_eq_true h1⟩⟩, hx⟩
theorem euler_part (w : Wf vs rd) {cs : List (List (α × α))} {ps : List (List α)} (F : FD vs rd cs) (Cd : CD vs rd ps) {c : List α} (hc : c ∈ ps) : 2 * c.length + 2 * (nfc cs c + nlone rd c) ≤ deg rd c + 4 := by
  have hsub : ∀ v ∈ c, v ∈ vs := fun v hv => Cd.perm.mem_iff.mp (List.mem_flatten.mpr ⟨c, hc, hv⟩)
  have hn : c.Nodup := by
    obtain ⟨rest, hp⟩ := perm_head hc
    have := hp.flatten.nodup_iff.mp (Cd.perm.nodup_iff.mpr w.nd)
    rw [List.flatten_cons] at this
    exact (List.nodup_append.mp this).1
  obtain ⟨F1, e1⟩ := fd_part w F hn hsub (Cd.shut c hc)
  have Cd1 : CD c rd [c] := ⟨by simp, fun d hd => by rw [List.mem_singleton.mp hd]; exact Cd.shut c hc, fun d hd => by rw [List.mem_singleton.mp hd]; exact Cd.conn c hc⟩
  have := euler_le _ rfl (wf_part w hn hsub (Cd.shut c hc)) F1 Cd1
  rw [e1] at this
  simpa using this
/-- the sums over the pieces -/
theorem sum_touch {w : List (α × α)} {c0 : List α} {ps : List (List α)} (hc0 : c0 ∈ ps) (hn : ps.flatten.Nodup) (hw : w ≠ []) (hin : ∀ s ∈ w, s.1 ∈ c0) : (ps.map fun c => if (w.any fun s => decide (s.1 ∈ c)) = true then 1 else 0).sum = 1 := by
  obtain ⟨rest, hp⟩ := perm_head hc0
  rw [(hp.map _).sum_nat, List.map_cons, List.sum_cons]
  obtain ⟨s, hs⟩ := List.exists_mem_of_ne_nil _ hw
  rw [any_yes hs (hin s hs), if_pos rfl]
  have hz : ∀ c ∈ rest, (if (w.any fun s => decide (s.1 ∈ c)) = true then 1 else 0) = 0 := fun c hc => by
    rw [any_no fun t ht => nodup_flatten_apart (hp.flatten.nodup_iff.mp hn) hc (hin t ht)]
    rfl
  have : (rest.map fun c => if (w.any fun s => decide (s.1 ∈ c)) = true then 1 else 0).sum = 0 := by
    clear hp hc0
    induction rest with
    | nil => rfl
    | cons c rest ih => rw [List.map_cons, List.sum_cons, hz c List.mem_cons_self, ih fun d hd => hz d (List.mem_cons_of_mem _ hd)]
  omega
theorem sum_add {β : Type} (f g : β → Nat) : ∀ l : List β, (l.map fun x => f x + g x).sum = (l.map f).sum + (l.map g).sum
  | [] => rfl
  | a :: l => by
    rw [List.map_cons, List.map_cons, List.map_cons, List.sum_cons, List.sum_cons, List.sum_cons, sum_add f g l]
    omega
theorem sum_mul {β : Type} (k : Nat) (f : β → Nat) : ∀ l : List β, (l.map fun x => k * f x).sum = k * (l.map f).sum
  | [] => by simp
  | a :: l => by
    rw [List.map_cons, List.map_cons, List.sum_cons, List.sum_cons, sum_mul k f l, Nat.mul_add]
theorem sum_nfc (w : Wf vs rd) {cs : List (List (α × α))} {ps : List (List α)} (F : FD vs rd cs) (Cd : CD vs rd ps) : (ps.map fun c => nfc cs c).sum = cs.length := by
  have hn : ps.flatten.Nodup := Cd.perm.nodup_iff.mpr w.nd
  have hcy := F.cyc
  have hin : ∀ d ∈ cs, ∀ s ∈ d, s ∈ darts vs rd := fun d hd s hs => fd_in F hd hs
  clear F
  induction cs with
  | nil =>
    have : ∀ l : List (List α), (l.map fun c => nfc ([] : List (List (α × α))) c).sum = 0 := fun l => by
      induction l with
      | nil => rfl
      | cons a l ih => rw [List.map_cons, List.sum_cons, ih]; rfl
    rw [this]; rfl
  | cons d cs ih =>
    have hd := hcy d List.mem_cons_self
    have e : (fun c => nfc (d :: cs) c) = fun c => nfc cs c + if (d.any fun s => decide (s.1 ∈ c)) = true then 1 else 0 := by
      funext c
      exact nfc_cons
    rw [e, sum_add, ih (fun x hx => hcy x (List.mem_cons_of_mem _ hx)) fun x hx => hin x (List.mem_cons_of_mem _ hx)]
    have hne := cyc_ne hd
    obtain ⟨s, hs⟩ := List.exists_mem_of_ne_nil _ hne
    obtain ⟨c0, hc0, hsc⟩ := List.mem_flatten.mp (Cd.perm.mem_iff.mpr (mem_darts.mp (hin d List.mem_cons_self s hs)).1)
    have hall := cyc_shut (vs := vs) (Cd.shut c0 hc0) (fun x hx => hin d List.mem_cons_self x hx) hd hs hsc
    rw [sum_touch hc0 hn hne hall, List.length_cons]
theorem sum_flat (f : List α → Nat) (g : α → Nat) (hf : ∀ c, f c = (c.map g).sum) : ∀ ps : List (List α), (ps.map f).sum = (ps.flatten.map g).sum
  | [] => rfl
  | c :: ps => by
    rw [List.map_cons, List.sum_cons, List.flatten_cons, List.map_append, List.sum_append, sum_flat f g hf ps, hf c]
theorem euler_sum (w : Wf vs rd) {cs : List (List (α × α))} {ps : List (List α)} (F : FD vs rd cs) (Cd : CD vs rd ps) :
    (ps.map fun c => 2 * c.length + 2 * (nfc cs c + nlone rd c)).sum = 2 * vs.length + 2 * (cs.length + nlone rd vs) ∧ (ps.map fun c => deg rd c + 4).sum = deg rd vs + 4 * ps.length := by
  have l1 : (ps.map fun c => c.length).sum = vs.length := by
    rw [sum_flat (fun c => c.length) (fun _ => 1) len_sum ps, ← len_sum, Cd.perm.length_eq]
  have l2 : (ps.map fun c => nlone rd c).sum = nlone rd vs := by
    have hg : ∀ c : List α, nlone rd c = (c.map fun v => if (rd v).isEmpty = true then 1 else 0).sum := fun c => by
      unfold nlone
      induction c with
      | nil => rfl
      | cons a c ih =>
        rw [List.countP_cons, List.map_cons, List.sum_cons, ih]
        omega
    rw [sum_flat (fun c => nlone rd c) (fun v => if (rd v).isEmpty = true then 1 else 0) hg ps, (Cd.perm.map _).sum_nat, hg]
  have l3 : (ps.map fun c => deg rd c).sum = deg rd vs := by
    rw [sum_flat (fun c => deg rd c) (fun v => (rd v).length) (fun c => rfl) ps, (Cd.perm.map _).sum_nat]
    rfl
  have l4 := sum_nfc w F Cd
  refine ⟨?_, ?_⟩
  · rw [sum_add (fun c => 2 * c.length) (fun c => 2 * (nfc cs c + nlone rd c)), sum_mul 2 (fun c : List α => c.length), sum_mul 2 (fun c => nfc cs c + nlone rd c), sum_add (fun c => nfc cs c) (fun c => nlone rd c), l1, l2, l4]
  · rw [sum_add (fun c => deg rd c) (fun _ => 4), l3]
    congr 1
    clear l1 l2 l3 l4 Cd
    induction ps with
    | nil => rfl
    | cons c ps ih =>
      rw [List.map_cons, List.sum_cons, ih, List.length_cons]
      omega
theorem sum_tight {β : Type} {f g : β → Nat} : ∀ {l : List β}, (∀ x ∈ l, f x ≤ g x) → (l.map g).sum ≤ (l.map f).sum → ∀ x ∈ l, f x = g x
  | [], _, _, x, hx => nomatch hx
  | a :: l, h, hs, x, hx => by
    rw [List.map_cons, List.map_cons, List.sum_cons, List.sum_cons] at hs
    have h1 := h a List.mem_cons_self
    have h2 : (l.map f).sum ≤ (l.map g).sum := by
      have : ∀ {l : List β}, (∀ x ∈ l, f x ≤ g x) → (l.map f).sum ≤ (l.map g).sum := by
        intro l
        induction l with
        | nil => intro _; simp
        | cons b l ih =>
          intro hh
          rw [List.map_cons, List.map_cons, List.sum_cons, List.sum_cons]
          have := hh b List.mem_cons_self
          have := ih fun x hx => hh x (List.mem_cons_of_mem _ hx)
          omega
      exact this fun y hy => h y (List.mem_cons_of_mem _ hy)
    rcases List.mem_cons.mp hx with e | e
    · rw [e]; omega
    · exact sum_tight (fun y hy => h y (List.mem_cons_of_mem _ hy)) (by omega) x e
/-- flat: as many in all as there may be -/
theorem flat_of_sum (w : Wf vs rd) {cs : List (List (α × α))} {ps : List (List α)} (F : FD vs rd cs) (Cd : CD vs rd ps) (h : deg rd vs + 4 * ps.length ≤ 2 * vs.length + 2 * (cs.length + nlone rd vs)) : Pl vs rd := by
  obtain ⟨e1, e2⟩ := euler_sum w F Cd
  refine ⟨w, cs, ps, F, Cd, sum_tight (fun c hc => euler_part w F Cd hc) ?_⟩
  rw [e1, e2]
  exact h
/-- a tie taken away -/
theorem Pl.cut (h : Pl vs rd) (c : Cut vs rd rd' o q) : Pl vs rd' := by
  obtain ⟨cs, ps, F, Cd, eu⟩ := h.flat
  obtain ⟨cs', ps', F', Cd', e⟩ := c.step h.wf F Cd
  obtain ⟨e1, e2⟩ := euler_sum h.wf F Cd
  have e3 : (ps.map fun c => 2 * c.length + 2 * (nfc cs c + nlone rd c)).sum = (ps.map fun c => Five.deg rd c + 4).sum := by
    rw [List.map_congr_left eu]
  refine flat_of_sum (c.wf h.wf) F' Cd' ?_
  omega
end
end Five
end
section
set_option autoImplicit false
namespace Five
section
variable {α : Type} [DecidableEq α] {vs : List α} {rd rd' : α → List α} {o q : α}
theorem Pl.congr (h : Pl vs rd) (e : ∀ v ∈ vs, rd' v = rd v) : Pl vs rd' :=
  Pl.named id h (fun x _ y _ z => z) (by rw [List.map_id]) fun v hv => ⟨[], rd v, by rw [List.map_id]; rfl, by show rd' v = _; rw [e v hv, List.append_nil]⟩
/-- ties taken away, many at once -/
theorem Pl.sub : ∀ (n : Nat) {rd rd' : α → List α}, deg rd vs = n → Pl vs rd → ∀ keep : α → α → Bool, (∀ v u, keep v u = keep u v) → (∀ v ∈ vs, rd' v = (rd v).filter (keep v)) → Pl vs rd' := by
  intro n
  induction n using Nat.strongRecOn with
  | ind n ih =>
    intro rd rd' hn h keep sym e
    by_cases hx : ∃ v ∈ vs, ∃ u ∈ rd v, keep v u = false
    · obtain ⟨v, hv, u, hu, hk⟩ := hx
      have c := cutR_cut h.wf hv hu
      have hd := c.deg h.wf
      obtain ⟨huv, hne, hvu⟩ := c.hqv h.wf
      refine ih (deg (cutR rd v u) vs) (by omega) rfl (h.cut c) keep sym fun x hx => ?_
      rw [e x hx]
      unfold cutR
      by_cases e1 : x = v
      · rw [if_pos e1, e1, List.filter_filter]
        refine List.filter_congr fun y hy => ?_
        by_cases e2 : y = u
        · rw [e2, hk]; rfl
        · simp [e2]
      · rw [if_neg e1]
        by_cases e2 : x = u
        · rw [if_pos e2, e2, List.filter_filter]
          refine List.filter_congr fun y hy => ?_
          by_cases e3 : y = v
          · rw [e3, sym u v, hk]; rfl
          · simp [e3]
        · rw [if_neg e2]
    · refine h.congr fun v hv => ?_
      rw [e v hv]
      refine List.filter_eq_self.mpr fun u hu => ?_
      cases hk : keep v u with
      | true => rfl
      | false => exact absurd ⟨v, hv, u, hu, hk⟩ hx
theorem len_flat_ge {β : Type} {k : Nat} : ∀ {cs : List (List β)}, (∀ c ∈ cs, k ≤ c.length) → k * cs.length ≤ cs.flatten.length
  | [], _ => by simp
  | c :: cs, h => by
    rw [List.flatten_cons, List.length_append, List.length_cons, Nat.mul_add]
    have := h c List.mem_cons_self
    have := len_flat_ge fun d hd => h d (List.mem_cons_of_mem _ hd)
    omega
theorem darts_deg : ∀ (vs : List α) (rd : α → List α), (darts vs rd).length = deg rd vs
  | [], rd => rfl
  | v :: vs, rd => by
    show ((rd v).map (fun u => (v, u)) ++ darts vs rd).length = _
    rw [List.length_append, List.length_map, darts_deg vs rd]
    rfl
theorem deg_ge {k : Nat} : ∀ {c : List α}, (∀ v ∈ c, k ≤ (rd v).length) → k * c.length ≤ deg rd c
  | [], _ => by simp
  | v :: c, h => by
    show _ ≤ ((rd v).length + deg rd c)
    have := h v List.mem_cons_self
    have := deg_ge (c := c) fun u hu => h u (List.mem_cons_of_mem _ hu)
    rw [List.length_cons, Nat.mul_add]
    omega
/-- a place with five ties at most, among those come to -/
theorem low_place (h : Pl vs rd) {v0 : α} (h0 : v0 ∈ vs) (P : α → Prop) (hP : ∀ v u, v ∈ vs → P v → u ∈ rd v → P u) (p0 : P v0) : ∃ v ∈ vs, P v ∧ (rd v).length ≤ 5 := by
  apply Classical.byContradiction
  intro hno
  have hmany : ∀ v ∈ vs, P v → 6 ≤ (rd v).length := fun v hv pv => by
    apply Classical.byContradiction
    intro q
    exact hno ⟨v, hv, pv, by omega⟩
  obtain ⟨cs, ps, F, Cd, eu⟩ := h.flat
  obtain ⟨c, hc, hvc⟩ := List.mem_flatten.mp (Cd.perm.mem_iff.mpr h0)
  have hsub : ∀ v ∈ c, v ∈ vs := fun v hv => Cd.perm.mem_iff.mp (List.mem_flatten.mpr ⟨c, hc, hv⟩)
  have hcP : ∀ v ∈ c, P v := (Cd.conn c hc).2 P (fun v u hv pv hu => hP v u (hsub v hv) pv hu) v0 hvc p0
  have hn : c.Nodup := by
    obtain ⟨rest, hp⟩ := perm_head hc
    have := hp.flatten.nodup_iff.mp (Cd.perm.nodup_iff.mpr h.wf.nd)
    rw [List.flatten_cons] at this
    exact (List.nodup_append.mp this).1
  have h6 : ∀ v ∈ c, 6 ≤ (rd v).length := fun v hv => hmany v (hsub v hv) (hcP v hv)
  obtain ⟨F1, e1⟩ := fd_part h.wf F hn hsub (Cd.shut c hc)
  have w1 := wf_part h.wf hn hsub (Cd.shut c hc)
  have hlone : nlone rd c = 0 := by
    unfold nlone
    rw [List.countP_eq_zero]
    intro v hv
    have := h6 v hv
    cases hr : rd v with
    | nil => rw [hr] at this; simp at this
    | cons _ _ => simp
  have h3 : ∀ f ∈ (cs.filter fun f => f.any fun s => decide (s.1 ∈ c)), 3 ≤ f.length := fun f hf => by
    have hcy := F1.cyc f hf
    have hin : ∀ s ∈ f, s ∈ darts c rd := fun s hs => fd_in F1 hf hs
    cases f with
    | nil => exact absurd rfl (cyc_ne hcy)
    | cons s r =>
      obtain ⟨s1, s2⟩ := mem_darts.mp (hin s (by simp))
      obtain ⟨t1, t2, t3⟩ := w1.ties s.1 s1 s.2 s2
      cases r with
      | nil =>
        have z : fs rd s = s := hcy
        unfold fs at z
        have := (Prod.mk.inj z).1
        exact absurd this t2
      | cons t r =>
        cases r with
        | nil =>
          have z1 : fs rd s = t := hcy.1
          have z2 : fs rd t = s := hcy.2
          have e2 : t.1 = s.2 := by rw [← z1]; rfl
          have e3 : s.1 = t.2 := by rw [← z2]; rfl
          have e4 : nx (rd s.2) s.1 = s.1 := by
            have : (fs rd s).2 = t.2 := by rw [z1]
            rw [e3]
            have h5 : nx (rd s.2) s.1 = t.2 := this
            rw [← e3, h5, ← e3]
          have := (lone_cut (w1.rn s.2 t1) t3).mpr e4
          obtain ⟨A, B, e5, _, _, e6⟩ := filter_split (w1.rn s.2 t1) t3
          rw [e6] at this
          have hl := h6 s.2 t1
          obtain ⟨a0, b0⟩ := List.append_eq_nil_iff.mp this
          rw [e5, a0, b0] at hl
          simp at hl
        | cons _ _ => simp
  have hlen := len_flat_ge h3
  rw [F1.perm.length_eq, darts_deg, e1] at hlen
  have he := eu c hc
  have hdg := deg_ge h6
  have hcpos : 0 < c.length := List.length_pos_iff.mpr (Cd.conn c hc).1
  omega
/-- of any places of a flat web one is tied to five of them at most -/
theorem low_in (h : Pl vs rd) {S : List α} (hS : ∀ v ∈ S, v ∈ vs) {v0 : α} (h0 : v0 ∈ S) : ∃ v ∈ S, ((rd v).filter fun u => decide (u ∈ S)).length ≤ 5 := by
  have hp : Pl vs fun v => (rd v).filter fun u => decide (v ∈ S) && decide (u ∈ S) := Pl.sub _ rfl h (fun v u => decide (v ∈ S) && decide (u ∈ S)) (fun v u => Bool.and_comm _ _) fun v _ => rfl
  obtain ⟨v, hv, pv, hl⟩ := low_place hp (hS v0 h0) (fun v => v ∈ S) (fun v u _ _ hu => by
    have := (List.mem_filter.mp hu).2
    simp at this
    exact this.2) h0
  refine ⟨v, pv, ?_⟩
  have : ((rd v).filter fun u => decide (v ∈ S) && decide (u ∈ S)) = (rd v).filter fun u => decide (u ∈ S) := List.filter_congr fun u _ => by simp [pv]
  rw [this] at hl
  exact hl
end
end Five
end
section
set_option autoImplicit false
namespace Five
section
variable {β : Type}
theorem path_all {f : β → β} {w : List β} (hw : ∀ x ∈ w, f x ∈ w) : ∀ {s e : β} {r : List β}, s ∈ w → Path f s r e → ∀ x ∈ r, x ∈ w
  | s, e, [], _, _, x, hx => by cases hx
  | s, e, t :: r, hs, ⟨p1, p2⟩, x, hx => by
    have ht : t ∈ w := by rw [← p1]; exact hw s hs
    rcases List.mem_cons.mp hx with q | q
    · rw [q]; exact ht
    · exact path_all hw ht p2 x q
theorem path_uniq {f : β → β} : ∀ {s e : β} {r r' : List β}, Path f s r e → Path f s r' e → e ∉ r → e ∉ r' → r = r'
  | s, e, [], [], _, _, _, _ => rfl
  | s, e, [], t :: r', p, q, _, h => by
    have p : f s = e := p
    exact absurd (show e ∈ t :: r' by rw [← p, q.1]; simp) h
  | s, e, t :: r, [], p, q, h, _ => by
    have q : f s = e := q
    exact absurd (show e ∈ t :: r by rw [← q, p.1]; simp) h
  | s, e, t :: r, t' :: r', p, q, h, h' => by
    have e1 : t = t' := p.1.symm.trans q.1
    subst e1
    rw [path_uniq p.2 q.2 (fun z => h (List.mem_cons_of_mem _ z)) fun z => h' (List.mem_cons_of_mem _ z)]
theorem path_nodup [DecidableEq β] {f : β → β} : ∀ {s e : β} {r : List β}, Path f s r e → e ∉ r → r.Nodup
  | s, e, [], _, _ => by simp
  | s, e, t :: r, ⟨p1, p2⟩, h => by
    have h2 : e ∉ r := fun z => h (List.mem_cons_of_mem _ z)
    refine List.nodup_cons.mpr ⟨fun ht => ?_, path_nodup p2 h2⟩
    obtain ⟨A, B, e1, _⟩ := mem_split ht
    have p3 := p2
    rw [e1] at p3
    have p4 := (path_app.mp p3).2
    have := path_uniq p2 p4 h2 fun z => h2 (by rw [e1]; simp [z])
    rw [e1] at this
    have := congrArg List.length this
    simp only [List.length_append, List.length_cons] at this
    omega
end
section
variable {α : Type} [DecidableEq α] {vs : List α} {rd : α → List α}
/-- ties that all lie on one face make a tree -/
theorem one_face (h : Pl vs rd) {s : α × α} {r : List (α × α)} (hs : s ∉ r) (sym : ∀ a b, (a, b) ∈ s :: r → (b, a) ∈ s :: r) (hin : ∀ x ∈ s :: r, x.1 ∈ vs ∧ x.2 ∈ rd x.1)
    (hc : Cyc (fs fun v => (rd v).filter fun u => decide ((v, u) ∈ s :: r)) (s :: r)) :
    ∃ c : List α, c.Nodup ∧ (∀ x, x ∈ c ↔ ∃ y, (x, y) ∈ s :: r) ∧ (s :: r).length + 2 = 2 * c.length := by
  have hD : (s :: r).Nodup := List.nodup_cons.mpr ⟨hs, path_nodup hc hs⟩
  have hsD : s ∈ s :: r := List.mem_cons_self
  generalize s :: r = D at *
  obtain ⟨rd', erd⟩ : ∃ rd' : α → List α, rd' = fun v => (rd v).filter fun u => decide ((v, u) ∈ D) := ⟨_, rfl⟩
  rw [← erd] at hc
  have pl : Pl vs rd' := Pl.sub _ rfl h (fun v u => decide ((v, u) ∈ D)) (fun v u => by
    by_cases c : (v, u) ∈ D
    · rw [decide_eq_true c, decide_eq_true (sym _ _ c)]
    · rw [decide_eq_false c, decide_eq_false fun z => c (sym _ _ z)]) (fun v hv => by rw [erd])
  have hm : ∀ v u, u ∈ rd' v ↔ u ∈ rd v ∧ (v, u) ∈ D := fun v u => by
    rw [erd]
    simp
  have hd : ∀ x, x ∈ darts vs rd' ↔ x ∈ D := fun x => by
    rw [mem_darts, hm]
    exact ⟨fun q => q.2.2, fun q => ⟨(hin x q).1, (hin x q).2, q⟩⟩
  obtain ⟨cs, ps, F, Cd, eu⟩ := pl.flat
  have hsv := (hin s hsD).1
  obtain ⟨c, hcp, hsc⟩ := List.mem_flatten.mp (Cd.perm.mem_iff.mpr hsv)
  have hcn : c.Nodup := by
    have := Cd.perm.nodup_iff.mpr pl.wf.nd
    exact (List.pairwise_flatten.mp this).1 c hcp
  have hcm : ∀ x, x ∈ c ↔ ∃ y, (x, y) ∈ D := fun x => by
    constructor
    · intro hx
      exact (Cd.conn c hcp).2 (fun x => ∃ y, (x, y) ∈ D) (fun v u _ _ hu => ⟨v, sym _ _ ((hm v u).mp hu).2⟩) s.1 hsc ⟨s.2, hsD⟩ x hx
    · rintro ⟨y, hy⟩
      exact cyc_shut (vs := vs) (Cd.shut c hcp) (fun x hx => (hd x).mpr hx) hc hsD hsc (x, y) hy
  refine ⟨c, hcn, hcm, ?_⟩
  have hfn : cs.flatten.Nodup := F.perm.nodup_iff.mpr (darts_nodup pl.wf.nd pl.wf.rn)
  have hall : ∀ w ∈ cs, s ∈ w := fun w hw => by
    have hwc := F.cyc w hw
    obtain ⟨t, ht⟩ := List.exists_mem_of_ne_nil w (cyc_ne hwc)
    have htD : t ∈ D := (hd t).mp (fd_in F hw ht)
    obtain ⟨A, B, e1, _⟩ := mem_split htD
    rw [e1] at hc hsD
    have hr := cyc_rot hc
    have hp : Path (fs rd') t (B ++ A) t := hr
    have := path_all (w := w) (fun x hx => cyc_step hwc hx) ht hp
    rcases List.mem_append.mp hsD with q | q
    · exact this s (List.mem_append_right _ q)
    · rcases List.mem_cons.mp q with q | q
      · rw [q]; exact ht
      · exact this s (List.mem_append_left _ q)
  have hcs : ∃ w, cs = [w] ∧ s ∈ w := by
    cases cs with
    | nil =>
      have : s ∈ ([] : List (List (α × α))).flatten := F.perm.mem_iff.mpr ((hd s).mpr hsD)
      cases this
    | cons w cs =>
      cases cs with
      | nil => exact ⟨w, rfl, hall w (by simp)⟩
      | cons w2 cs => exact absurd (hall w2 (by simp)) (nodup_flatten_apart hfn (by simp) (hall w (by simp)))
  obtain ⟨w, rfl, hsw⟩ := hcs
  have e1 : nfc [w] c = 1 := by
    rw [nfc_cons, any_yes hsw hsc, if_pos rfl]
    rfl
  have e2 : nlone rd' c = 0 := by
    unfold nlone
    rw [List.countP_eq_zero]
    intro v hv q
    obtain ⟨y, hy⟩ := (hcm v).mp hv
    have : y ∈ rd' v := (hm v y).mpr ⟨(hin _ hy).2, hy⟩
    cases e : rd' v with
    | nil => rw [e] at this; cases this
    | cons a r => rw [e] at q; cases q
  have e3 : deg rd' c = D.length := by
    rw [← darts_deg]
    refine (perm_of_mem (darts_nodup hcn fun v hv => ?_) hD fun x => ?_).length_eq
    · obtain ⟨y, hy⟩ := (hcm v).mp hv
      exact pl.wf.rn v (hin _ hy).1
    · rw [mem_darts, hm]
      exact ⟨fun q => q.2.2, fun q => ⟨(hcm _).mpr ⟨_, q⟩, (hin x q).2, q⟩⟩
  have := eu c hcp
  rw [e1, e2, e3] at this
  omega
/-! steps of a way -/
def prs : List α → List (α × α)
  | a :: b :: r => (a, b) :: prs (b :: r)
  | _ => []
theorem prs_len : ∀ (l : List α), (prs l).length = l.length - 1
  | [] => rfl
  | [_] => rfl
  | a :: b :: r => by
    show (prs (b :: r)).length + 1 = _
    rw [prs_len (b :: r)]
    simp
theorem prs_mem {x u : α} : ∀ {l : List α}, (x, u) ∈ prs l ↔ ∃ A B, l = A ++ x :: u :: B
  | [] => by simp [prs]
  | [a] => by
    simp only [prs, List.not_mem_nil, false_iff]
    rintro ⟨A, B, e⟩
    have := congrArg List.length e
    simp at this
    omega
  | a :: b :: r => by
    show (x, u) ∈ (a, b) :: prs (b :: r) ↔ _
    rw [List.mem_cons, prs_mem (l := b :: r)]
    constructor
    · rintro (e | ⟨A, B, e⟩)
      · obtain ⟨rfl, rfl⟩ := Prod.mk.inj e
        exact ⟨[], r, rfl⟩
      · exact ⟨a :: A, B, by rw [e]; rfl⟩
    · rintro ⟨A, B, e⟩
      cases A with
      | nil =>
        simp at e
        obtain ⟨rfl, rfl, _⟩ := e
        exact .inl rfl
      | cons z A =>
        simp at e
        exact .inr ⟨A, B, e.2⟩
theorem prs_rev {x u : α} {l : List α} : (x, u) ∈ prs l.reverse ↔ (u, x) ∈ prs l := by
  rw [prs_mem, prs_mem]
  constructor
  · rintro ⟨A, B, e⟩
    refine ⟨B.reverse, A.reverse, ?_⟩
    have := congrArg List.reverse e
    rw [List.reverse_reverse] at this
    rw [this]
    simp
  · rintro ⟨A, B, e⟩
    refine ⟨B.reverse, A.reverse, ?_⟩
    rw [e]
    simp
theorem prs_app {a : α} : ∀ (A : List α) (B : List α), prs (A ++ a :: B) = prs (A ++ [a]) ++ prs (a :: B)
  | [], B => rfl
  | [x], B => rfl
  | x :: y :: A, B => by
    show (x, y) :: prs ((y :: A) ++ a :: B) = ((x, y) :: prs ((y :: A) ++ [a])) ++ prs (a :: B)
    rw [prs_app (y :: A) B]
    rfl
theorem app_uniq {x : α} : ∀ {A A' B B' : List α}, A ++ x :: B = A' ++ x :: B' → x ∉ A → x ∉ B → A = A' ∧ B = B'
  | [], [], B, B', h, _, _ => by simpa using h
  | [], a :: A', B, B', h, _, hb => by
    simp at h
    exact absurd (by rw [h.2]; simp) hb
  | a :: A, [], B, B', h, ha, _ => by
    simp at h
    exact absurd (by rw [h.1]; simp) ha
  | a :: A, a' :: A', B, B', h, ha, hb => by
    simp at h
    obtain ⟨rfl, h⟩ := h
    obtain ⟨rfl, rfl⟩ := app_uniq h (fun q => ha (List.mem_cons_of_mem _ q)) hb
    exact ⟨rfl, rfl⟩
theorem nx_two {l : List α} {a c : α} (hn : l.Nodup) (hm : ∀ u, u ∈ l ↔ u = a ∨ u = c) (ne : a ≠ c) : nx l a = c := by
  have hp : l.Perm [a, c] := perm_of_mem hn (by simpa using ne) fun u => by rw [hm]; simp
  have hl := hp.length_eq
  match l, hl with
  | [x, y], _ =>
    have hx := (hm x).mp (by simp)
    have hy := (hm y).mp (by simp)
    have hxy : x ≠ y := by simpa using hn
    rcases hx with rfl | rfl
    · rcases hy with rfl | rfl
      · exact absurd rfl hxy
      · have := nx_app (A := ([] : List α)) (B := [y]) (x := x) (by simp)
        simpa using this
    · rcases hy with rfl | rfl
      · have := nx_app (A := [x]) (B := ([] : List α)) (x := y) (by simpa using hxy.symm)
        simpa using this
      · exact absurd rfl hxy
/-- at each place of the way it goes on with the next one of the round -/
def Tr (rd : α → List α) : List α → Prop
  | a :: x :: c :: r => nx (rd x) a = c ∧ Tr rd (x :: c :: r)
  | _ => True
theorem Tr.of {rd : α → List α} : ∀ {L : List α}, (∀ A a x c B, L = A ++ a :: x :: c :: B → nx (rd x) a = c) → Tr rd L
  | [], _ => trivial
  | [_], _ => trivial
  | [_, _], _ => trivial
  | a :: x :: c :: r, h => ⟨h [] a x c r rfl, Tr.of fun A a' x' c' B e => h (a :: A) a' x' c' B (by rw [e]; rfl)⟩
theorem Tr.join {rd : α → List α} {a v c : α} (hn : nx (rd v) a = c) {B : List α} (h2 : Tr rd (v :: c :: B)) : ∀ {A : List α}, Tr rd (A ++ [a, v]) → Tr rd (A ++ a :: v :: c :: B)
  | [], _ => ⟨hn, h2⟩
  | [x], h => ⟨h.1, hn, h2⟩
  | x :: y :: A, h => by
    have h : Tr rd (x :: y :: (A ++ [a, v])) := h
    show Tr rd (x :: y :: (A ++ a :: v :: c :: B))
    cases A with
    | nil => exact ⟨h.1, Tr.join hn h2 (A := [y]) h.2⟩
    | cons z A => exact ⟨h.1, Tr.join hn h2 (A := y :: z :: A) h.2⟩
theorem Tr.path {rd : α → List α} : ∀ {L : List α} {a b c d : α}, Tr rd (a :: b :: L ++ [c, d]) → Path (fs rd) (a, b) (prs (b :: L ++ [c])) (c, d) 
  | [], a, b, c, d, h => by
    have h1 : nx (rd b) a = c := h.1
    have h2 : nx (rd c) b = d := h.2.1
    exact ⟨by show (b, nx (rd b) a) = (b, c); rw [h1], by show (c, nx (rd c) b) = (c, d); rw [h2]⟩
  | x :: L, a, b, c, d, h => by
    have h1 : nx (rd b) a = x := h.1
    exact ⟨by show (b, nx (rd b) a) = (b, x); rw [h1], Tr.path (L := L) h.2⟩
end
end Five
end
section
set_option autoImplicit false
namespace Five
section
variable {α : Type} [DecidableEq α] {vs : List α} {rd : α → List α} {v : α} {P Q : List α}
theorem ring_in (hn : P.Nodup) (hv : v ∉ P) (h2 : 2 ≤ P.length) {A B : List α} {a x c : α} (e : v :: P ++ [v] = A ++ a :: x :: c :: B) :
    x ∈ P ∧ a ≠ c ∧ (∀ u, (x, u) ∈ prs (v :: P ++ [v]) ↔ u = c) ∧ ∀ u, (u, x) ∈ prs (v :: P ++ [v]) ↔ u = a := by
  obtain ⟨B', z, eB⟩ : ∃ B' z, c :: B = B' ++ [z] := ⟨(c :: B).dropLast, (c :: B).getLast (by simp), (List.dropLast_concat_getLast _).symm⟩
  have e1 : (v :: P) ++ [v] = (A ++ a :: x :: B') ++ [z] := by
    rw [e, eB]; simp
  obtain ⟨e2, e3⟩ := List.append_inj' e1 rfl
  have e3 : v = z := by simpa using e3
  subst e3
  obtain ⟨A'', eP, eA⟩ : ∃ A'', P = A'' ++ x :: B' ∧ A ++ [a] = v :: A'' := by
    cases A with
    | nil =>
      simp at e2
      exact ⟨[], by rw [e2.2]; rfl, by rw [e2.1]; rfl⟩
    | cons y A =>
      simp at e2
      exact ⟨A ++ [a], by rw [e2.2]; simp, by rw [e2.1]; rfl⟩
  have hx : x ∈ P := by rw [eP]; simp
  have hxv : x ≠ v := fun q => hv (by rw [← q]; exact hx)
  have hn' := hn
  rw [eP] at hn'
  obtain ⟨n1, n2, n3⟩ := List.nodup_append.mp hn'
  have hxA : x ∉ A ++ [a] := by
    rw [eA]
    intro q
    rcases List.mem_cons.mp q with q | q
    · exact hxv q
    · exact n3 x q x (by simp) rfl
  have hxB : x ∉ c :: B := by
    rw [eB]
    intro q
    rcases List.mem_append.mp q with q | q
    · exact (List.nodup_cons.mp n2).1 q
    · exact hxv (List.mem_singleton.mp q)
  have eL : v :: P ++ [v] = (A ++ [a]) ++ x :: (c :: B) := by rw [e]; simp
  refine ⟨hx, ?_, fun u => ?_, fun u => ?_⟩
  · have hc : c ∈ B' ∨ (B' = [] ∧ c = v) := by
      cases B' with
      | nil =>
        simp at eB
        exact .inr ⟨rfl, eB.1⟩
      | cons b B' =>
        simp at eB
        exact .inl (by rw [eB.1]; simp)
    have ha : a ∈ A'' ∨ (A'' = [] ∧ a = v) := by
      cases A with
      | nil =>
        simp at eA
        exact .inr ⟨eA.2, eA.1⟩
      | cons y A =>
        simp at eA
        exact .inl (by rw [← eA.2]; simp)
    intro q
    rcases ha with ha | ⟨ha, ha2⟩
    · rcases hc with hc | ⟨hc, hc2⟩
      · exact n3 a ha c (List.mem_cons_of_mem _ hc) q
      · exact hv (by rw [← hc2, ← q, eP]; exact List.mem_append_left _ ha)
    · rcases hc with hc | ⟨hc, hc2⟩
      · exact hv (by rw [← ha2, q, eP]; exact List.mem_append_right _ (List.mem_cons_of_mem _ hc))
      · rw [eP, ha, hc] at h2
        simp at h2
  · rw [prs_mem]
    constructor
    · rintro ⟨A2, B2, e4⟩
      rw [eL] at e4
      obtain ⟨_, e5⟩ := app_uniq e4 hxA hxB
      exact (List.cons.inj e5).1.symm
    · rintro rfl
      exact ⟨A ++ [a], B, eL⟩
  · rw [prs_mem]
    constructor
    · rintro ⟨A2, B2, e4⟩
      rw [eL, show A2 ++ u :: x :: B2 = (A2 ++ [u]) ++ x :: B2 by simp] at e4
      obtain ⟨e5, _⟩ := app_uniq e4 hxA hxB
      have := List.append_inj' e5 rfl
      simpa using this.2.symm
    · rintro rfl
      exact ⟨A, c :: B, e⟩
theorem ring_tr {rd' : α → List α} (hn : P.Nodup) (hv : v ∉ P) (h2 : 2 ≤ P.length) (hr : ∀ x ∈ P, (rd' x).Nodup) (hm : ∀ x ∈ P, ∀ u, u ∈ rd' x ↔ (x, u) ∈ prs (v :: P ++ [v]) ∨ (u, x) ∈ prs (v :: P ++ [v])) :
    Tr rd' (v :: P ++ [v]) ∧ Tr rd' (v :: P ++ [v]).reverse := by
  have key : ∀ A a x c B, v :: P ++ [v] = A ++ a :: x :: c :: B → nx (rd' x) a = c ∧ nx (rd' x) c = a := fun A a x c B e => by
    obtain ⟨hx, ne, q1, q2⟩ := ring_in hn hv h2 e
    have h3 : ∀ u, u ∈ rd' x ↔ u = a ∨ u = c := fun u => by
      rw [hm x hx, q1, q2]
      exact ⟨fun q => q.symm, fun q => q.symm⟩
    exact ⟨nx_two (hr x hx) h3 ne, nx_two (hr x hx) (fun u => (h3 u).trans ⟨fun q => q.symm, fun q => q.symm⟩) ne.symm⟩
  refine ⟨Tr.of fun A a x c B e => (key A a x c B e).1, Tr.of fun A a x c B e => ?_⟩
  refine (key B.reverse c x a A.reverse ?_).2
  have := congrArg List.reverse e
  rw [List.reverse_reverse] at this
  rw [this]
  simp
theorem ring_v {n0 n2 : α} {P1 P2 : List α} (hv : v ∉ P) (e1 : P = n0 :: P1) (e2 : P = P2 ++ [n2]) (u : α) : ((v, u) ∈ prs (v :: P ++ [v]) ↔ u = n0) ∧ ((u, v) ∈ prs (v :: P ++ [v]) ↔ u = n2) := by
  have half : ∀ {P : List α} {n0 : α} {P1 : List α}, v ∉ P → P = n0 :: P1 → ∀ u, (v, u) ∈ prs (v :: P ++ [v]) ↔ u = n0 := fun {P n0 P1} hv e1 u => by
    rw [prs_mem]
    constructor
    · rintro ⟨A, B, e⟩
      cases A with
      | nil =>
        rw [e1] at e
        simp at e
        exact e.1.symm
      | cons y A =>
        exfalso
        obtain ⟨B', z, eB⟩ : ∃ B' z, u :: B = B' ++ [z] := ⟨(u :: B).dropLast, (u :: B).getLast (by simp), (List.dropLast_concat_getLast _).symm⟩
        have e3 : P ++ [v] = (A ++ v :: B') ++ [z] := by
          have := (List.cons.inj e).2
          rw [show A ++ v :: B' ++ [z] = A ++ v :: (B' ++ [z]) by simp, ← eB]
          exact this
        obtain ⟨e4, _⟩ := List.append_inj' e3 rfl
        exact hv (by rw [e4]; simp)
    · rintro rfl
      exact ⟨[], P1 ++ [v], by rw [e1]; rfl⟩
  refine ⟨half hv e1 u, ?_⟩
  rw [← prs_rev]
  have e3 : (v :: P ++ [v]).reverse = v :: P.reverse ++ [v] := by simp
  rw [e3]
  exact half (n0 := n2) (P1 := P2.reverse) (by simpa using hv) (by rw [e2]; simp) u
theorem prs_sub {l : List α} {x u : α} (h : (x, u) ∈ prs l) : x ∈ l ∧ u ∈ l := by
  obtain ⟨A, B, e⟩ := prs_mem.mp h
  rw [e]
  simp
/-- two rings through a place do not cross there -/
theorem no_cross (h : Pl vs rd) {n0 n1 n2 n3 : α} {P1 P2 Q1 Q2 : List α} (hr : (rd v).filter (fun u => decide (u ∈ [n0, n1, n2, n3])) = [n0, n1, n2, n3]) (hnd : [n0, n1, n2, n3].Nodup)
    (hPn : P.Nodup) (hQn : Q.Nodup) (hPv : v ∉ P) (hQv : v ∉ Q) (hP2 : 2 ≤ P.length) (hQ2 : 2 ≤ Q.length) (dis : ∀ x ∈ P, x ∉ Q)
    (eP1 : P = n0 :: P1) (eP2 : P = P2 ++ [n2]) (eQ1 : Q = n1 :: Q1) (eQ2 : Q = Q2 ++ [n3])
    (tP : ∀ a b, (a, b) ∈ prs (v :: P ++ [v]) → a ∈ vs ∧ b ∈ rd a) (tQ : ∀ a b, (a, b) ∈ prs (v :: Q ++ [v]) → a ∈ vs ∧ b ∈ rd a) : False := by
  have wf := h.wf
  -- the walk
  obtain ⟨M, eM⟩ : ∃ M, M = P1 ++ v :: (Q.reverse ++ v :: (P.reverse ++ v :: Q)) := ⟨_, rfl⟩
  have rP : (v :: P ++ [v]).reverse = v :: P.reverse ++ [v] := by simp
  have rQ : (v :: Q ++ [v]).reverse = v :: Q.reverse ++ [v] := by simp
  have eD : (v, n0) :: prs (n0 :: M ++ [v]) = prs (v :: P ++ [v]) ++ (prs (v :: Q.reverse ++ [v]) ++ (prs (v :: P.reverse ++ [v]) ++ prs (v :: Q ++ [v]))) := by
    have e1 : (v, n0) :: prs (n0 :: M ++ [v]) = prs ((v :: P) ++ v :: (Q.reverse ++ v :: (P.reverse ++ v :: (Q ++ [v])))) := by
      rw [eP1, eM, eP1]
      show (v, n0) :: prs (n0 :: _) = (v, n0) :: prs (n0 :: _)
      congr 2
      simp
    rw [e1, prs_app (a := v) (v :: P) (Q.reverse ++ v :: (P.reverse ++ v :: (Q ++ [v])))]
    have e2 := prs_app (a := v) (v :: Q.reverse) (P.reverse ++ v :: (Q ++ [v]))
    have e3 := prs_app (a := v) (v :: P.reverse) (Q ++ [v])
    have e2 : prs (v :: (Q.reverse ++ v :: (P.reverse ++ v :: (Q ++ [v])))) = prs (v :: Q.reverse ++ [v]) ++ prs (v :: (P.reverse ++ v :: (Q ++ [v]))) := e2
    have e3 : prs (v :: (P.reverse ++ v :: (Q ++ [v]))) = prs (v :: P.reverse ++ [v]) ++ prs (v :: (Q ++ [v])) := e3
    rw [e2, e3]
    rfl
  have mD : ∀ x u, (x, u) ∈ (v, n0) :: prs (n0 :: M ++ [v]) ↔ ((x, u) ∈ prs (v :: P ++ [v]) ∨ (u, x) ∈ prs (v :: P ++ [v])) ∨ ((x, u) ∈ prs (v :: Q ++ [v]) ∨ (u, x) ∈ prs (v :: Q ++ [v])) := fun x u => by
    rw [eD, List.mem_append, List.mem_append, List.mem_append, ← rQ, ← rP, prs_rev, prs_rev]
    constructor
    · rintro (q | q | q | q)
      · exact .inl (.inl q)
      · exact .inr (.inr q)
      · exact .inl (.inr q)
      · exact .inr (.inl q)
    · rintro ((q | q) | (q | q))
      · exact .inl q
      · exact .inr (.inr (.inl q))
      · exact .inr (.inr (.inr q))
      · exact .inr (.inl q)
  have hlen : ((v, n0) :: prs (n0 :: M ++ [v])).length = 2 * (P.length + 1) + 2 * (Q.length + 1) := by
    rw [eD]
    simp [prs_len]
    omega
  have inP : ∀ x, x ∈ v :: P ++ [v] → x = v ∨ x ∈ P := fun x hx => by
    simp at hx
    rcases hx with q | q | q
    · exact .inl q
    · exact .inr q
    · exact .inl q
  have inQ : ∀ x, x ∈ v :: Q ++ [v] → x = v ∨ x ∈ Q := fun x hx => by
    simp at hx
    rcases hx with q | q | q
    · exact .inl q
    · exact .inr q
    · exact .inl q
  have outQ : ∀ x ∈ P, x ∉ v :: Q ++ [v] := fun x hx q => by
    rcases inQ x q with z | z
    · exact hPv (by rw [← z]; exact hx)
    · exact dis x hx z
  have outP : ∀ x ∈ Q, x ∉ v :: P ++ [v] := fun x hx q => by
    rcases inP x q with z | z
    · exact hQv (by rw [← z]; exact hx)
    · exact dis x z hx
  have hn0P : n0 ∈ P := by rw [eP1]; simp
  have ne02 : n0 ≠ n2 := by
    intro e
    rw [e] at hnd
    simp at hnd
  have hs : (v, n0) ∉ prs (n0 :: M ++ [v]) := by
    have e0 : prs (n0 :: M ++ [v]) = prs (P ++ [v]) ++ (prs (v :: Q.reverse ++ [v]) ++ (prs (v :: P.reverse ++ [v]) ++ prs (v :: Q ++ [v]))) := by
      have := eD
      rw [show prs (v :: P ++ [v]) = (v, n0) :: prs (P ++ [v]) by rw [eP1]; rfl, List.cons_append] at this
      exact (List.cons.inj this).2
    rw [e0, List.mem_append, List.mem_append, List.mem_append, ← rQ, ← rP, prs_rev, prs_rev]
    rintro (q | q | q | q)
    · obtain ⟨A, B, e⟩ := prs_mem.mp q
      obtain ⟨B', z, eB⟩ : ∃ B' z, n0 :: B = B' ++ [z] := ⟨(n0 :: B).dropLast, (n0 :: B).getLast (by simp), (List.dropLast_concat_getLast _).symm⟩
      rw [eB, show A ++ v :: (B' ++ [z]) = (A ++ v :: B') ++ [z] by simp] at e
      obtain ⟨e4, _⟩ := List.append_inj' e rfl
      exact hPv (by rw [e4]; simp)
    · exact outQ n0 hn0P (prs_sub q).1
    · exact ne02 (((ring_v hPv eP1 eP2 n0).2).mp q)
    · exact outQ n0 hn0P (prs_sub q).2
  have sym : ∀ a b, (a, b) ∈ (v, n0) :: prs (n0 :: M ++ [v]) → (b, a) ∈ (v, n0) :: prs (n0 :: M ++ [v]) := fun a b q => by
    rw [mD] at q ⊢
    rcases q with (q | q) | (q | q)
    · exact .inl (.inr q)
    · exact .inl (.inl q)
    · exact .inr (.inr q)
    · exact .inr (.inl q)
  have back : ∀ a b, a ∈ vs ∧ b ∈ rd a → b ∈ vs ∧ a ∈ rd b := fun a b q => ⟨(wf.ties a q.1 b q.2).1, (wf.ties a q.1 b q.2).2.2⟩
  have hin : ∀ x ∈ (v, n0) :: prs (n0 :: M ++ [v]), x.1 ∈ vs ∧ x.2 ∈ rd x.1 := fun x q => by
    obtain ⟨a, b⟩ := x
    rcases (mD a b).mp q with (q | q) | (q | q)
    · exact tP a b q
    · exact back b a (tP b a q)
    · exact tQ a b q
    · exact back b a (tQ b a q)
  obtain ⟨rd', erd⟩ : ∃ rd' : α → List α, rd' = fun x => (rd x).filter fun u => decide ((x, u) ∈ (v, n0) :: prs (n0 :: M ++ [v])) := ⟨_, rfl⟩
  have hm : ∀ x u, u ∈ rd' x ↔ u ∈ rd x ∧ (x, u) ∈ (v, n0) :: prs (n0 :: M ++ [v]) := fun x u => by
    rw [erd]
    simp only [List.mem_filter, decide_eq_true_eq]
  have hm' : ∀ x u, u ∈ rd' x ↔ (x, u) ∈ (v, n0) :: prs (n0 :: M ++ [v]) := fun x u => (hm x u).trans ⟨fun q => q.2, fun q => ⟨(hin _ q).2, q⟩⟩
  have hrn : ∀ x, x ∈ vs → (rd' x).Nodup := fun x hx => by
    rw [erd]
    exact (wf.rn x hx).sublist List.filter_sublist
  have rv : rd' v = [n0, n1, n2, n3] := by
    rw [← hr, erd]
    refine List.filter_congr fun u _ => ?_
    have : (v, u) ∈ (v, n0) :: prs (n0 :: M ++ [v]) ↔ u ∈ [n0, n1, n2, n3] := by
      rw [mD, (ring_v hPv eP1 eP2 u).1, (ring_v hPv eP1 eP2 u).2, (ring_v hQv eQ1 eQ2 u).1, (ring_v hQv eQ1 eQ2 u).2]
      simp
      constructor
      · rintro ((q | q) | (q | q)) <;> simp [q]
      · rintro (q | q | q | q) <;> simp [q]
    by_cases c : u ∈ [n0, n1, n2, n3]
    · rw [decide_eq_true c, decide_eq_true (this.mpr c)]
    · rw [decide_eq_false c, decide_eq_false fun z => c (this.mp z)]
  have hPvs : ∀ x ∈ P, x ∈ vs := fun x hx => by
    obtain ⟨A, B, e⟩ := List.append_of_mem hx
    cases B with
    | nil => exact (tP x v (prs_mem.mpr ⟨v :: A, [], by rw [e]; simp⟩)).1
    | cons b B => exact (tP x b (prs_mem.mpr ⟨v :: A, B ++ [v], by rw [e]; simp⟩)).1
  have hQvs : ∀ x ∈ Q, x ∈ vs := fun x hx => by
    obtain ⟨A, B, e⟩ := List.append_of_mem hx
    cases B with
    | nil => exact (tQ x v (prs_mem.mpr ⟨v :: A, [], by rw [e]; simp⟩)).1
    | cons b B => exact (tQ x b (prs_mem.mpr ⟨v :: A, B ++ [v], by rw [e]; simp⟩)).1
  obtain ⟨T1, T3⟩ := ring_tr (rd' := rd') hPn hPv hP2 (fun x hx => hrn x (hPvs x hx)) fun x hx u => by
    rw [hm', mD]
    exact ⟨fun q => q.resolve_right fun z => z.elim (fun z => outQ x hx (prs_sub z).1) fun z => outQ x hx (prs_sub z).2, .inl⟩
  obtain ⟨T4, T2⟩ := ring_tr (rd' := rd') hQn hQv hQ2 (fun x hx => hrn x (hQvs x hx)) fun x hx u => by
    rw [hm', mD]
    exact ⟨fun q => q.resolve_left fun z => z.elim (fun z => outP x hx (prs_sub z).1) fun z => outP x hx (prs_sub z).2, .inr⟩
  rw [rP] at T3
  rw [rQ] at T2
  have d01 : n0 ≠ n1 ∧ n0 ≠ n2 ∧ n0 ≠ n3 ∧ n1 ≠ n2 ∧ n1 ≠ n3 ∧ n2 ≠ n3 := by
    simp at hnd
    obtain ⟨⟨a, b, c⟩, ⟨d, e⟩, f⟩ := hnd
    exact ⟨a, b, c, d, e, f⟩
  obtain ⟨a1, a2, a3, a4, a5, a6⟩ := d01
  have x0 : nx (rd' v) n0 = n1 := by
    rw [rv]
    have := nx_app (A := ([] : List α)) (B := [n1, n2, n3]) (x := n0) (by simp)
    simpa using this
  have x1 : nx (rd' v) n1 = n2 := by
    rw [rv]
    have := nx_app (A := [n0]) (B := [n2, n3]) (x := n1) (by simpa using a1.symm)
    simpa using this
  have x2 : nx (rd' v) n2 = n3 := by
    rw [rv]
    have := nx_app (A := [n0, n1]) (B := [n3]) (x := n2) (by simp; exact ⟨a2.symm, a4.symm⟩)
    simpa using this
  have x3 : nx (rd' v) n3 = n0 := by
    rw [rv]
    have := nx_app (A := [n0, n1, n2]) (B := ([] : List α)) (x := n3) (by simp; exact ⟨a3.symm, a5.symm, a6.symm⟩)
    simpa using this
  have U4 : Tr rd' (v :: Q ++ [v, n0]) := by
    have : Tr rd' ((v :: Q2) ++ n3 :: v :: n0 :: []) := Tr.join (B := []) x3 trivial (by rw [eQ2] at T4; simpa using T4)
    rw [eQ2]
    simpa using this
  have U3 : Tr rd' (v :: P.reverse ++ (v :: Q ++ [v, n0])) := by
    have h1 : P.reverse = P1.reverse ++ [n0] := by rw [eP1]; simp
    have : Tr rd' ((v :: P1.reverse) ++ n0 :: v :: n1 :: (Q1 ++ [v, n0])) := Tr.join x0 (by rw [eQ1] at U4; simpa using U4) (by rw [h1] at T3; simpa using T3)
    rw [h1, eQ1]
    simpa using this
  have U2 : Tr rd' (v :: Q.reverse ++ (v :: P.reverse ++ (v :: Q ++ [v, n0]))) := by
    have h1 : Q.reverse = Q1.reverse ++ [n1] := by rw [eQ1]; simp
    have h2 : P.reverse = n2 :: P2.reverse := by rw [eP2]; simp
    have : Tr rd' ((v :: Q1.reverse) ++ n1 :: v :: n2 :: (P2.reverse ++ (v :: Q ++ [v, n0]))) := Tr.join x1 (by rw [h2] at U3; simpa using U3) (by rw [h1] at T2; simpa using T2)
    rw [h1, h2]
    simpa using this
  have U1 : Tr rd' (v :: P ++ (v :: Q.reverse ++ (v :: P.reverse ++ (v :: Q ++ [v, n0])))) := by
    have h2 : Q.reverse = n3 :: Q2.reverse := by rw [eQ2]; simp
    have : Tr rd' ((v :: P2) ++ n2 :: v :: n3 :: (Q2.reverse ++ (v :: P.reverse ++ (v :: Q ++ [v, n0])))) := Tr.join x2 (by rw [h2] at U2; simpa using U2) (by rw [eP2] at T1; simpa using T1)
    rw [h2]
    conv => rw [eP2]
    rw [eP2] at this
    simpa using this
  have hcyc : Cyc (fs rd') ((v, n0) :: prs (n0 :: M ++ [v])) := by
    refine Tr.path (rd := rd') (L := M) (a := v) (b := n0) (c := v) (d := n0) ?_
    have e1 : v :: n0 :: M ++ [v, n0] = v :: P ++ (v :: Q.reverse ++ (v :: P.reverse ++ (v :: Q ++ [v, n0]))) := by
      rw [eM]
      conv => rhs; rw [eP1]
      rw [eP1]
      simp
    rw [e1]
    exact U1
  rw [erd] at hcyc
  obtain ⟨c, hcn, hcm, hcl⟩ := one_face h hs sym hin hcyc
  have hp : c.Perm (v :: P ++ Q) := by
    refine perm_of_mem hcn ?_ fun x => ?_
    · show (v :: (P ++ Q)).Nodup
      refine List.nodup_cons.mpr ⟨fun q => (List.mem_append.mp q).elim hPv hQv, List.nodup_append.mpr ⟨hPn, hQn, fun a ha b hb e => dis a ha (by rw [e]; exact hb)⟩⟩
    · rw [hcm]
      constructor
      · rintro ⟨y, hy⟩
        rcases (mD x y).mp hy with (q | q) | (q | q)
        · rcases inP x (prs_sub q).1 with z | z <;> simp [z]
        · rcases inP x (prs_sub q).2 with z | z <;> simp [z]
        · rcases inQ x (prs_sub q).1 with z | z <;> simp [z]
        · rcases inQ x (prs_sub q).2 with z | z <;> simp [z]
      · intro hx
        have hx : x ∈ v :: (P ++ Q) := hx
        rcases List.mem_cons.mp hx with q | q
        · exact ⟨n0, by rw [q]; simp⟩
        · rcases List.mem_append.mp q with q | q
          · obtain ⟨A, B, e⟩ := List.append_of_mem q
            cases B with
            | nil => exact ⟨v, (mD x v).mpr (.inl (.inl (prs_mem.mpr ⟨v :: A, [], by rw [e]; simp⟩)))⟩
            | cons b B => exact ⟨b, (mD x b).mpr (.inl (.inl (prs_mem.mpr ⟨v :: A, B ++ [v], by rw [e]; simp⟩)))⟩
          · obtain ⟨A, B, e⟩ := List.append_of_mem q
            cases B with
            | nil => exact ⟨v, (mD x v).mpr (.inr (.inl (prs_mem.mpr ⟨v :: A, [], by rw [e]; simp⟩)))⟩
            | cons b B => exact ⟨b, (mD x b).mpr (.inr (.inl (prs_mem.mpr ⟨v :: A, B ++ [v], by rw [e]; simp⟩)))⟩
  have := hp.length_eq
  rw [hlen] at hcl
  simp at this
  omega
end
end Five
end
section
set_option autoImplicit false
namespace Five
/-! any web has faces and pieces -/
section
variable {β : Type} [DecidableEq β] {f : β → β} {D : List β}
theorem orbit_go (hD : ∀ x ∈ D, f x ∈ D) (inj : ∀ x ∈ D, ∀ y ∈ D, f x = f y → x = y) {s : β} : ∀ (n : Nat) (r : List β) (e : β), Path f s r e → (s :: r).Nodup → (∀ x ∈ s :: r, x ∈ D) → e ∈ D → D.length ≤ (s :: r).length + n →
    ∃ r', Path f s r' s ∧ (s :: r').Nodup ∧ ∀ x ∈ s :: r', x ∈ D := by
  intro n
  induction n with
  | zero =>
    intro r e p hn hin he hl
    by_cases c : e ∈ s :: r
    · rcases List.mem_cons.mp c with q | q
      · subst q
        exact ⟨r, p, hn, hin⟩
      · exact (orbit_back hD inj p hn hin q).elim
    · have h2 : (e :: s :: r).Nodup := List.nodup_cons.mpr ⟨c, hn⟩
      have : ∀ {a b : List β}, a.Nodup → (∀ x ∈ a, x ∈ b) → a.length ≤ b.length := by
        intro a
        induction a with
        | nil => intro b _ _; exact Nat.zero_le _
        | cons x t ih =>
          intro b ha h
          obtain ⟨h1, h2⟩ := List.nodup_cons.mp ha
          obtain ⟨A, B, rfl, _⟩ := mem_split (h x (by simp))
          have := ih (b := A ++ B) h2 fun y hy => by
            have ne : y ≠ x := fun e => h1 (by rw [← e]; exact hy)
            have q := h y (List.mem_cons_of_mem _ hy)
            simp only [List.mem_append, List.mem_cons] at q ⊢
            rcases q with q | q | q
            · exact .inl q
            · exact absurd q ne
            · exact .inr q
          simp only [List.length_append, List.length_cons] at this ⊢
          omega
      have := this h2 (b := D) fun x hx => by
        rcases List.mem_cons.mp hx with q | q
        · rw [q]; exact he
        · exact hin x q
      simp only [List.length_cons] at this hl
      omega
  | succ n ih =>
    intro r e p hn hin he hl
    by_cases c : e ∈ s :: r
    · rcases List.mem_cons.mp c with q | q
      · subst q
        exact ⟨r, p, hn, hin⟩
      · exact (orbit_back hD inj p hn hin q).elim
    · refine ih (r ++ [e]) (f e) ?_ ?_ ?_ (hD e he) ?_
      · exact path_app.mpr ⟨p, rfl⟩
      · have e1 : s :: (r ++ [e]) = (s :: r) ++ [e] := rfl
        rw [e1]
        exact List.nodup_append.mpr ⟨hn, by simp, fun a ha b hb q => c (by rw [← List.mem_singleton.mp hb, ← q]; exact ha)⟩
      · intro x hx
        rcases List.mem_append.mp (show x ∈ (s :: r) ++ [e] from hx) with q | q
        · exact hin x q
        · rw [List.mem_singleton.mp q]; exact he
      · simp only [List.length_cons, List.length_append, List.length_nil] at hl ⊢
        omega
where
  orbit_back (hD : ∀ x ∈ D, f x ∈ D) (inj : ∀ x ∈ D, ∀ y ∈ D, f x = f y → x = y) {s e : β} {r : List β} (p : Path f s r e) (hn : (s :: r).Nodup) (hin : ∀ x ∈ s :: r, x ∈ D) (q : e ∈ r) : False := by
    have last : ∀ (r : List β) (s e : β), Path f s r e → ∃ A z, s :: r = A ++ [z] ∧ f z = e := by
      intro r
      induction r with
      | nil => intro s e p; exact ⟨[], s, rfl, p⟩
      | cons t r ih =>
        intro s e p
        obtain ⟨A, z, h1, h2⟩ := ih t e p.2
        exact ⟨s :: A, z, by rw [h1]; rfl, h2⟩
    obtain ⟨A, B, rfl, hA⟩ := mem_split q
    obtain ⟨p1, p2⟩ := path_app.mp p
    obtain ⟨X, z, h1, h2⟩ := last A s e p1
    obtain ⟨Y, w, h3, h4⟩ := last B e e p2
    have hz : z ∈ s :: (A ++ e :: B) := by
      have : z ∈ s :: A := by rw [h1]; simp
      rcases List.mem_cons.mp this with q | q
      · rw [q]; simp
      · exact List.mem_cons_of_mem _ (List.mem_append_left _ q)
    have hw : w ∈ e :: B := by rw [h3]; simp
    have hw2 : w ∈ s :: (A ++ e :: B) := List.mem_cons_of_mem _ (List.mem_append_right _ hw)
    have ezw := inj z (hin z hz) w (hin w hw2) (h2.trans h4.symm)
    have e1 : s :: (A ++ e :: B) = (s :: A) ++ (e :: B) := rfl
    rw [e1] at hn
    exact (List.nodup_append.mp hn).2.2 z (by rw [h1]; simp) w hw ezw
theorem orbit (hD : ∀ x ∈ D, f x ∈ D) (inj : ∀ x ∈ D, ∀ y ∈ D, f x = f y → x = y) {s : β} (hs : s ∈ D) : ∃ r, Path f s r s ∧ (s :: r).Nodup ∧ ∀ x ∈ s :: r, x ∈ D :=
  orbit_go hD inj D.length [] (f s) rfl (by simp) (by simpa using hs) (hD s hs) (by simp)
theorem orbits : ∀ (n : Nat) (D : List β), D.length ≤ n → D.Nodup → (∀ x ∈ D, f x ∈ D) → (∀ x ∈ D, ∀ y ∈ D, f x = f y → x = y) → ∃ cs : List (List β), cs.flatten.Perm D ∧ ∀ c ∈ cs, Cyc f c := by
  intro n
  induction n with
  | zero =>
    intro D hl _ _ _
    have : D = [] := by cases D with
      | nil => rfl
      | cons _ _ => simp at hl
    subst this
    exact ⟨[], .nil, fun c hc => (nomatch hc)⟩
  | succ n ih =>
    intro D hl hn hD inj
    cases hd : D with
    | nil => exact ⟨[], .nil, fun c hc => (nomatch hc)⟩
    | cons s D0 =>
      rw [← hd]
      have hs : s ∈ D := by rw [hd]; simp
      obtain ⟨r, p, h1, h2⟩ := orbit hD inj hs
      have cy : Cyc f (s :: r) := p
      have hle : (D.filter fun x => decide (x ∉ s :: r)).length ≤ n := by
        have : (D.filter fun x => decide (x ∉ s :: r)).length < D.length := by
          rw [List.length_filter_lt_length_iff_exists]
          exact ⟨s, hs, by simp⟩
        omega
      have hmap : ∀ x ∈ D.filter (fun x => decide (x ∉ s :: r)), f x ∈ D.filter (fun x => decide (x ∉ s :: r)) := by
        intro x hx
        obtain ⟨q1, q2⟩ := List.mem_filter.mp hx
        have q2 := of_decide_eq_true q2
        refine List.mem_filter.mpr ⟨hD x q1, decide_eq_true fun z => q2 ?_⟩
        -- f x in the orbit: then x is, too
        have last : ∀ (r : List β) (s e : β), Path f s r e → ∀ y ∈ r ++ [e], ∃ w ∈ s :: r, f w = y := by
          intro r
          induction r with
          | nil => intro s e p y hy; rw [show y = e by simpa using hy]; exact ⟨s, by simp, p⟩
          | cons t r ih =>
            intro s e p y hy
            rcases List.mem_cons.mp (show y ∈ t :: (r ++ [e]) from hy) with q | q
            · exact ⟨s, by simp, by rw [q]; exact p.1⟩
            · obtain ⟨w, w1, w2⟩ := ih t e p.2 y q
              exact ⟨w, List.mem_cons_of_mem _ w1, w2⟩
        obtain ⟨w, w1, w2⟩ := last r s s p (f x) (by
          rcases List.mem_cons.mp z with q | q
          · rw [q]; simp
          · exact List.mem_append_left _ q)
        rw [inj x q1 w (h2 w w1) w2.symm]
        exact w1
      obtain ⟨cs, c1, c2⟩ := ih (D.filter fun x => decide (x ∉ s :: r)) hle (hn.filter _) hmap fun x hx y hy => inj x (List.mem_filter.mp hx).1 y (List.mem_filter.mp hy).1
      · refine ⟨(s :: r) :: cs, ?_, fun c hc => ?_⟩
        · rw [List.flatten_cons]
          refine (List.Perm.append_left _ c1).trans ?_
          refine (List.Perm.append_right _ (l₂ := D.filter fun x => decide (x ∈ s :: r)) ?_).trans ?_
          · refine (List.perm_ext_iff_of_nodup h1 (hn.filter _)).mpr fun x => ?_
            rw [List.mem_filter, decide_eq_true_iff]
            exact ⟨fun q => ⟨h2 x q, q⟩, fun q => q.2⟩
          · have := List.filter_append_perm (fun x => decide (x ∈ s :: r)) D
            refine List.Perm.trans (List.Perm.append_left _ (List.Perm.of_eq ?_)) this
            refine List.filter_congr fun x _ => ?_
            by_cases c : x ∈ s :: r
            · rw [decide_eq_true c, decide_eq_false (fun z => z c)]; rfl
            · rw [decide_eq_false c, decide_eq_true c]; rfl
        · rcases List.mem_cons.mp hc with q | q
          · rw [q]; exact cy
          · exact c2 c q
end
section
variable {α : Type} [DecidableEq α] {vs : List α} {rd : α → List α}
theorem nx_inj {l : List α} (hn : l.Nodup) {x y : α} (hx : x ∈ l) (hy : y ∈ l) (h : nx l x = nx l y) : x = y := by
  have key : ∀ {x : α}, x ∈ l → nx l.reverse (nx l x) = x := fun {x} hx => by
    obtain ⟨A, B, rfl, hA⟩ := mem_split hx
    rw [nx_app hA]
    cases B with
    | cons y B =>
      show nx _ y = x
      have e : (A ++ x :: y :: B).reverse = B.reverse ++ y :: (x :: A.reverse) := by simp
      have hy : y ∉ B.reverse := fun q => by
        rw [List.nodup_append] at hn
        have := hn.2.1
        rw [List.nodup_cons, List.nodup_cons] at this
        exact this.2.1 (List.mem_reverse.mp q)
      rw [e, nx_app hy]
      rfl
    | nil =>
      cases A with
      | nil => simp [nx]
      | cons a A =>
        show nx _ a = x
        have e : (a :: A ++ [x]).reverse = (x :: A.reverse) ++ a :: [] := by simp
        have ha : a ∉ x :: A.reverse := fun q => by
          have h1 : (a :: (A ++ [x])).Nodup := hn
          rw [List.nodup_cons] at h1
          refine h1.1 ?_
          rcases List.mem_cons.mp q with z | z
          · rw [z]; simp
          · exact List.mem_append_left _ (List.mem_reverse.mp z)
        rw [e, nx_app ha]
        rfl
  rw [← key hx, h, key hy]
theorem fd_ex (w : Wf vs rd) : ∃ cs, FD vs rd cs := by
  obtain ⟨cs, h1, h2⟩ := orbits (f := fs rd) (darts vs rd).length (darts vs rd) (Nat.le_refl _) (darts_nodup w.nd w.rn) (fun x hx => w.fs_mem hx) fun x hx y hy e => by
    obtain ⟨a1, a2⟩ := mem_darts.mp hx
    obtain ⟨b1, b2⟩ := mem_darts.mp hy
    have e1 : x.2 = y.2 := congrArg Prod.fst e
    have e2 : nx (rd x.2) x.1 = nx (rd y.2) y.1 := congrArg Prod.snd e
    rw [← e1] at e2
    obtain ⟨c1, _, c2⟩ := w.ties x.1 a1 x.2 a2
    obtain ⟨d1, _, d2⟩ := w.ties y.1 b1 y.2 b2
    rw [← e1] at d2
    exact Prod.ext (nx_inj (w.rn x.2 c1) c2 d2 e2) e1
  exact ⟨cs, h1, h2⟩
theorem cd_ex (w : Wf vs rd) : ∃ ps, CD vs rd ps := by
  have key : ∀ (n : Nat) (us : List α), us.length ≤ n → us.Nodup → (∀ v ∈ us, v ∈ vs) → (∀ v ∈ us, ∀ u ∈ rd v, u ∈ us) → ∃ ps, CD us rd ps := by
    intro n
    induction n with
    | zero =>
      intro us hl _ _ _
      have : us = [] := by cases us with
        | nil => rfl
        | cons _ _ => simp at hl
      subst this
      exact ⟨[], .nil, fun c hc => (nomatch hc), fun c hc => (nomatch hc)⟩
    | succ n ih =>
      intro us hl hn hsub hsh
      cases hu : us with
      | nil => exact ⟨[], .nil, fun c hc => (nomatch hc), fun c hc => (nomatch hc)⟩
      | cons a us0 =>
        rw [← hu]
        have ha : a ∈ us := by rw [hu]; simp
        have back : ∀ v ∈ us, ∀ u ∈ rd v, v ∈ rd u := fun v hv u hu => (w.ties v (hsub v hv) u hu).2.2
        let R : α → Prop := fun x => ∀ S : α → Prop, (∀ v u, v ∈ us → S v → u ∈ rd v → S u) → S a → S x
        have dR : ∀ x, Decidable (R x) := fun x => Classical.propDecidable _
        have stepR : ∀ v u, v ∈ us → R v → u ∈ rd v → R u := fun v u hv hr hu S hS h0 => hS v u hv (hr S hS h0) hu
        have stepN : ∀ v u, v ∈ us → ¬ R v → u ∈ rd v → ¬ R u := fun v u hv hr hu q => hr (stepR u v (hsh v hv u hu) q (back v hv u hu))
        obtain ⟨ps, P1, P2, P3⟩ := ih (us.filter fun x => decide (¬ R x)) (by
          have : (us.filter fun x => decide (¬ R x)).length < us.length := by
            rw [List.length_filter_lt_length_iff_exists]
            exact ⟨a, ha, fun q => (of_decide_eq_true q) fun S _ h => h⟩
          omega) (hn.filter _) (fun v hv => hsub v (List.mem_filter.mp hv).1) fun v hv u hu => by
            obtain ⟨q1, q2⟩ := List.mem_filter.mp hv
            exact List.mem_filter.mpr ⟨hsh v q1 u hu, decide_eq_true (stepN v u q1 (of_decide_eq_true q2) hu)⟩
        refine ⟨(us.filter fun x => decide (R x)) :: ps, ?_, fun c hc v hv u hu => ?_, fun c hc => ?_⟩
        · rw [List.flatten_cons]
          refine (List.Perm.append_left _ P1).trans ?_
          have := List.filter_append_perm (fun x => decide (R x)) us
          refine List.Perm.trans (List.Perm.append_left _ (List.Perm.of_eq ?_)) this
          refine List.filter_congr fun x _ => ?_
          by_cases c : R x
          · rw [decide_eq_true c, decide_eq_false (fun z => z c)]; rfl
          · rw [decide_eq_false c, decide_eq_true c]; rfl
        · rcases List.mem_cons.mp hc with q | q
          · subst q
            obtain ⟨q1, q2⟩ := List.mem_filter.mp hv
            exact List.mem_filter.mpr ⟨hsh v q1 u hu, decide_eq_true (stepR v u q1 (of_decide_eq_true q2) hu)⟩
          · exact P2 c q v hv u hu
        · rcases List.mem_cons.mp hc with q | q
          · subst q
            refine ⟨List.ne_nil_of_mem (List.mem_filter.mpr ⟨ha, decide_eq_true fun S _ h => h⟩), fun S hS v hv sv u hu => ?_⟩
            obtain ⟨v1, v2⟩ := List.mem_filter.mp hv
            obtain ⟨u1, u2⟩ := List.mem_filter.mp hu
            have v2 : R v := of_decide_eq_true v2
            have u2 : R u := of_decide_eq_true u2
            -- from v back to a, and on to u
            have hSa : S a := by
              apply Classical.byContradiction
              intro hno
              refine v2 (fun x => R x → ¬ S x) (fun x y hx sx hy ry sy => ?_) (fun _ => hno) v2 sv
              have hyx := back x hx y hy
              have hyu := hsh x hx y hy
              have rx : R x := stepR y x hyu ry hyx
              exact sx rx (hS y x (List.mem_filter.mpr ⟨hyu, decide_eq_true ry⟩) sy hyx)
            have := u2 (fun x => R x ∧ S x) (fun x y hx sx hy => ⟨stepR x y hx sx.1 hy, hS x y (List.mem_filter.mpr ⟨hx, decide_eq_true sx.1⟩) sx.2 hy⟩) ⟨fun S _ h => h, hSa⟩
            exact this.2
          · exact P3 c q
  exact key vs.length vs (Nat.le_refl _) w.nd (fun v hv => hv) fun v hv u hu => (w.ties v hv u hu).1
end
end Five
end
section
namespace Five
open PySem PySem.Spec PyProof.Rows L2
open PySem.W (Datum DatumOrd dataLt dataLe minOf EachIs AllAlike Sortable Holds HoldAll)
/-! data with a type: what a rule asks and tells of them -/
abbrev tD {α : Type} [DecidableEq α] [Datum α] (x : α) : PyData := Datum.toD x
section
variable {α : Type} [DecidableEq α] [DatumOrd α]
def leD (a b : α) : Bool := !DatumOrd.lt b a
def srt (l : List α) : List α := l.mergeSort leD
theorem lt_tri {a b : α} (h1 : DatumOrd.lt a b = false) (h2 : DatumOrd.lt b a = false) : a = b := by
  rw [← DatumOrd.lt_eq] at h1 h2
  have e : PySem.W.keyToks (Datum.toD a) = PySem.W.keyToks (Datum.toD b) := lex_total _ _ h1 h2
  cases q : PyData.eqv (Datum.toD a) (Datum.toD b) with
  | true => rw [Datum.eqv] at q; exact of_decide_eq_true q
  | false =>
    have z := (PySem.W.toks_eqv _ _ (DatumOrd.alike a b)).2 q [] [Sum.inl 0]
    have z2 : PyProof.Rows.lexLt itemOrd (PySem.W.keyToks (Datum.toD a)) (PySem.W.keyToks (Datum.toD b)) = false := h1
    rw [z2, e, PySem.W.lex_pre] at z
    exact absurd z (by decide)
theorem leD_trans (a b c : α) (h1 : leD a b = true) (h2 : leD b c = true) : leD a c = true := by
  unfold leD at *
  cases q : DatumOrd.lt c a with
  | false => rfl
  | true =>
    rw [← DatumOrd.lt_eq] at q
    have := lex_negTrans _ (PySem.W.keyToks (Datum.toD b)) _ q
    rcases this with z | z
    · have z' : dataLt (Datum.toD c) (Datum.toD b) = true := z
      rw [DatumOrd.lt_eq] at z'
      rw [z'] at h2
      exact absurd h2 (by simp)
    · have z' : dataLt (Datum.toD b) (Datum.toD a) = true := z
      rw [DatumOrd.lt_eq] at z'
      rw [z'] at h1
      exact absurd h1 (by simp)
theorem lt_irr (a : α) : DatumOrd.lt a a = false := by rw [← DatumOrd.lt_eq]; exact lex_irrefl _
theorem lt_tr {a b c : α} (h1 : DatumOrd.lt a b = true) (h2 : DatumOrd.lt b c = true) : DatumOrd.lt a c = true := by
  rw [← DatumOrd.lt_eq] at *
  exact lex_trans _ _ _ h1 h2
theorem lt_asym {a b : α} (h1 : DatumOrd.lt a b = true) : DatumOrd.lt b a = false := by
  cases q : DatumOrd.lt b a with
  | false => rfl
  | true =>
    have := lt_tr h1 q
    rw [lt_irr] at this
    exact absurd this (by simp)
theorem leD_total (a b : α) : (leD a b || leD b a) = true := by
  unfold leD
  cases h : DatumOrd.lt b a with
  | false => rfl
  | true => rw [lt_asym h]; rfl
theorem leD_anti {a b : α} (h1 : leD a b = true) (h2 : leD b a = true) : a = b := by
  unfold leD at *
  exact lt_tri (by simpa using h2) (by simpa using h1)
theorem srt_perm (l : List α) : (srt l).Perm l := List.mergeSort_perm l _
theorem srt_pw (l : List α) : (srt l).Pairwise (fun a b => leD a b = true) := List.pairwise_mergeSort leD_trans leD_total l
theorem srt_uniq {l m : List α} (h : m.Perm l) (p : m.Pairwise (fun a b => leD a b = true)) : m = srt l :=
  List.Perm.eq_of_pairwise (le := fun a b => leD a b = true) (fun a b _ _ h1 h2 => leD_anti h1 h2) p (srt_pw l) (h.trans (srt_perm l).symm)
theorem srt_congr {l m : List α} (h : l.Perm m) : srt l = srt m := srt_uniq ((srt_perm l).trans h) (srt_pw l)
theorem srt_mem {l : List α} {x : α} : x ∈ srt l ↔ x ∈ l := (srt_perm l).mem_iff
theorem srt_length (l : List α) : (srt l).length = l.length := (srt_perm l).length_eq
theorem srt_nil : srt ([] : List α) = [] := by simp [srt]
theorem srt_srt (l : List α) : srt (srt l) = srt l := srt_congr (srt_perm l)
end
theorem leS_iff (a b : Str) : leD a b = true ↔ ¬ b.cps.toList < a.cps.toList := by
  unfold leD
  show (!decide (b.cps.toList < a.cps.toList)) = true ↔ _
  simp
theorem ltCps_iff : ∀ a b : List Nat, ltCps a b = decide (a < b)
  | [], [] => by simp [ltCps]
  | [], b :: t => by simp [ltCps]
  | a :: r, [] => by simp [ltCps]
  | a :: r, b :: t => by
    rw [ltCps, ltCps_iff r t]
    by_cases h1 : a < b
    · simp [h1, List.cons_lt_cons_iff]
    · by_cases h2 : a = b
      · subst h2; simp [List.cons_lt_cons_iff]
      · simp [h1, h2, List.cons_lt_cons_iff]
theorem risingS_pw : ∀ (r : List Str) (p : Str), risingS p r = true → (p :: r).Pairwise (fun a b => leD a b = true)
  | [], p, _ => by simp
  | x :: r, p, h => by
    rw [risingS, Bool.and_eq_true] at h
    have h1 : leD p x = true := by
      rw [leS_iff]
      have := h.1
      rw [ltCps_iff] at this
      simpa using this
    have ih := risingS_pw r x h.2
    refine List.pairwise_cons.mpr ⟨fun y hy => ?_, ih⟩
    rcases List.mem_cons.mp hy with e | hy
    · rw [e]; exact h1
    · exact leD_trans _ _ _ h1 ((List.pairwise_cons.mp ih).1 y hy)
theorem sortedS_srt {ys xs : List Str} (h : ys.Perm xs) (hs : sortedS ys = true) : ys = srt xs := by
  refine srt_uniq h ?_
  cases ys with
  | nil => exact .nil
  | cons p r => exact risingS_pw r p hs
/-! tests whose answer is known -/
theorem iteYes {c A B : Prop} {inst : Decidable c} (hc : c) (h : A) : if decide c = true then A else B := by rw [if_pos (decide_eq_true hc)]; exact h
theorem iteNo {c A B : Prop} {inst : Decidable c} (hc : ¬ c) (h : B) : if decide c = true then A else B := by rw [if_neg (by simpa using hc)]; exact h
theorem iteNe {α : Type} {x : α} {A B : Prop} {inst : Decidable (x ≠ x)} (h : B) : if decide (x ≠ x) = true then A else B := iteNo (fun q => q rfl) h
theorem iteEq {α : Type} {x y : α} {A B : Prop} {inst : Decidable (x ≠ y)} (hc : x ≠ y) (h : A) : if decide (x ≠ y) = true then A else B := iteYes hc h
/-! rules -/
section
variable {K : PySem.W.Frag} {G H : Hp} {a : Addr} {α : Type} [DecidableEq α] [Datum α]
theorem dp_sm {G' : Hp} (s : Sm G G') : ∀ {v : V} {d : PyData}, Dp K G v d → Dp K G' v d := by
  intro v d h
  induction h using Dp.rec (motive_2 := fun vs ds _ => DpAll K G' vs ds) with
  | non => exact .non
  | bl b => exact .bl b
  | int i => exact .int i
  | str x => exact .str x
  | lst h _ ih => exact .lst (s.seq h) ih
  | tup h _ ih => exact .tup (s.seqT h) ih
  | nil => exact .nil
  | cons _ _ h1 h2 => exact .cons h1 h2
theorem LS.dp {l : List Str} (h : LS K G a l) : Dp K G (.ref a) (tD l) := .lst h (dpAll_strs l)
theorem T2.dp {p : Str × Str} (h : T2 K G a p) : Dp K G (.ref a) (tD p) := .tup (SqT.of h) (.cons (.str _) (.cons (.str _) .nil))
theorem I2.dp {p : Int × Int} (h : I2 K G a p) : Dp K G (.ref a) (tD p) := .tup (SqT.of h) (.cons (.int _) (.cons (.int _) .nil))
theorem dpAll_ints : ∀ ss : List Int, DpAll K G (ss.map V.int) (ss.map PyData.int)
  | [] => .nil
  | s :: r => .cons (.int s) (dpAll_ints r)
theorem LI.dp {l : List Int} (h : LI K G a l) : Dp K G (.ref a) (tD l) := .lst h (dpAll_ints l)
theorem RowT.dp {r : Row} (h : RowT K G a r) : Dp K G (.ref a) (tD r) := let ⟨_, h1, h2⟩ := h; .tup (SqT.of h1) (.cons (.str _) (.cons (LS.dp (K := K) (SqL.of h2)) .nil))
theorem dpAll_refs {R : Hp → Addr → α → Prop} (f : ∀ a x, R G a x → Dp K G (.ref a) (tD x)) : ∀ {as : List Addr} {xs : List α}, Paired (R G) as xs → DpAll K G (as.map V.ref) (xs.map Datum.toD)
  | _, _, .nil => .nil
  | _, _, .cons h t => .cons (f _ _ h) (dpAll_refs f t)
theorem LR.dp {R : Hp → Addr → α → Prop} (f : ∀ a x, R G a x → Dp K G (.ref a) (tD x)) {xs : List α} (h : LR K R G a xs) : Dp K G (.ref a) (tD xs) := let ⟨_, h1, h2⟩ := h; .lst h1 (dpAll_refs f h2)
theorem nil_dp (h : SqL K G a []) : Dp K G (.ref a) (tD ([] : List α)) := .lst h .nil
end
section
variable {X : Cx} {α : Type} [DecidableEq α]
def rEqT (K : PySem.W.Frag) (α : Type) [DecidableEq α] [Datum α] : R2 := fun v u H Q => ∃ x y : α, Dp K H v (tD x) ∧ Dp K H u (tD y) ∧ Q (.bl (decide (x = y))) H
def rNeT (K : PySem.W.Frag) (α : Type) [DecidableEq α] [Datum α] : R2 := fun v u H Q => ∃ x y : α, Dp K H v (tD x) ∧ Dp K H u (tD y) ∧ Q (.bl (decide (x ≠ y))) H
theorem op_eqT (α : Type) [DecidableEq α] [Datum α] (hu : X.A.units + 64 < cLine) (hd : Datum.depth α ≤ 60 := by decide) : OpR X (compareOp .Eq) (rEqT X.K α) := by
  intro pins s σ H x y v u Q I rx ry h
  obtain ⟨d, e, hd1, he, q⟩ := h
  exact PySem.W.eq_datum (Dp.reads I _ x v hd1 rx) (Dp.reads I _ y u he ry) (by omega) ⟨.bl _, H, I, rfl, q⟩
theorem op_neT (α : Type) [DecidableEq α] [Datum α] (hu : X.A.units + 64 < cLine) (hd : Datum.depth α ≤ 60 := by decide) : OpR X (compareOp .NotEq) (rNeT X.K α) := by
  intro pins s σ H x y v u Q I rx ry h
  obtain ⟨d, e, hd1, he, q⟩ := h
  exact PySem.W.ne_datum (Dp.reads I _ x v hd1 rx) (Dp.reads I _ y u he ry) (by omega) ⟨.bl _, H, I, rfl, q⟩
/-- x in xs, a list of data -/
def rInT (K : PySem.W.Frag) (α : Type) [DecidableEq α] [Datum α] : R2 := fun v u H Q => ∃ (x : α) (a : Addr) (vs : List V) (xs : List α), u = .ref a ∧ Dp K H v (tD x) ∧ SqL K H a vs ∧ DpAll K H vs (xs.map Datum.toD) ∧ Q (.bl (decide (x ∈ xs))) H
def rNotInT (K : PySem.W.Frag) (α : Type) [DecidableEq α] [Datum α] : R2 := fun v u H Q => ∃ (x : α) (a : Addr) (vs : List V) (xs : List α), u = .ref a ∧ Dp K H v (tD x) ∧ SqL K H a vs ∧ DpAll K H vs (xs.map Datum.toD) ∧ Q (.bl (decide (x ∉ xs))) H
theorem op_inT (α : Type) [DecidableEq α] [Datum α] (hu : X.A.units + 64 < cLine) (hd : Datum.depth α ≤ 60 := by decide) : OpR X (compareOp .In) (rInT X.K α) := by
  intro pins s σ H x y v u Q I rx ry h
  obtain ⟨d, a, vs, xs, rfl, h1, h2, h3, q⟩ := h
  cases ry
  obtain ⟨its, rv, hl, _⟩ := I.list h2
  obtain ⟨as, hr⟩ := Dp.readsAll I _ _ its h3 rv
  exact PySem.W.in_list_datum (xs := xs) hl.isList ⟨as, by simpa using hr⟩ (Dp.reads I _ x v h1 rx) (by omega) ⟨.bl _, H, I, rfl, q⟩
theorem op_notInT (α : Type) [DecidableEq α] [Datum α] (hu : X.A.units + 64 < cLine) (hd : Datum.depth α ≤ 60 := by decide) : OpR X (compareOp .NotIn) (rNotInT X.K α) := by
  intro pins s σ H x y v u Q I rx ry h
  obtain ⟨d, a, vs, xs, rfl, h1, h2, h3, q⟩ := h
  cases ry
  obtain ⟨its, rv, hl, _⟩ := I.list h2
  obtain ⟨as, hr⟩ := Dp.readsAll I _ _ its h3 rv
  exact PySem.W.notIn_list_datum (xs := xs) hl.isList ⟨as, by simpa using hr⟩ (Dp.reads I _ x v h1 rx) (by omega) ⟨.bl _, H, I, rfl, q⟩
/-- sorted(xs) of texts, of things by their data -/
def rSrtS (K : PySem.W.Frag) : List V → Hp → VK → Prop := fun vs H Q => ∃ (a : Addr) (ss : List Str), vs = [V.ref a] ∧ LS K H a ss ∧ ∀ p, H p = none → Q (.ref p) (upd H p (.lst ((srt ss).map V.str)))
def rSrtR (K : PySem.W.Frag) (α : Type) [DecidableEq α] [DatumOrd α] : List V → Hp → VK → Prop := fun vs H Q => ∃ (a : Addr) (as : List Addr) (xs : List α), vs = [V.ref a] ∧ SqL K H a (as.map V.ref) ∧ Paired (fun b x => Dp K H (.ref b) (tD x)) as xs ∧ (∀ x ∈ xs, Sortable [tD x]) ∧
  ∀ (cs : List (Addr × α)) p, cs.Perm (as.zip xs) → cs.map (·.2) = srt xs → H p = none → Q (.ref p) (upd H p (.lst (cs.map fun c => V.ref c.1)))
theorem map_pair_fst {β γ δ : Type} (l : List β) (f : β → γ) (g : β → δ) : (l.map fun x => (f x, g x)).map (·.1) = l.map f := by rw [List.map_map]; rfl
theorem cr_srtS (hu : X.A.units + 64 < cLine) : CallR X (.builtin "sorted") (rSrtS X.K) := by
  intro pins s σ H vs us Q I r h
  obtain ⟨a, ss, rfl, hs, q⟩ := h
  refine cr_sortedDt hu pins s σ H _ us Q I r ⟨a, ss.map fun x => (V.str x, PyData.str x), rfl, by rw [map_pair_fst]; exact hs, fun b hb => ?_, ?_, ?_, fun b hb => ?_, fun p hp => ?_⟩
  · obtain ⟨x, _, rfl⟩ := List.mem_map.mp hb
    exact .str x
  · intro d hd d' hd'
    simp only [List.map_map, List.mem_map, Function.comp] at hd hd'
    obtain ⟨x, _, rfl⟩ := hd
    obtain ⟨y, _, rfl⟩ := hd'
    simp [PySem.W.alike]
  · refine .inr fun d hd => ?_
    simp only [List.map_map, List.mem_map, Function.comp] at hd
    obtain ⟨x, _, rfl⟩ := hd
    exact ⟨fun z => (nomatch z), fun _ z => (nomatch z)⟩
  · obtain ⟨x, _, rfl⟩ := List.mem_map.mp hb
    simp [PyData.depth]
  · have e : ((ss.map fun x => (V.str x, PyData.str x)).mergeSort (dataLe false (·.2))) = (srt ss).map fun x => (V.str x, PyData.str x) := by
      unfold srt
      refine (List.map_mergeSort fun x _ y _ => ?_).symm
      show leD x y = !dataLt (.str y) (.str x)
      rw [PySem.W.dataLt_str]
      rfl
    rw [e, map_pair_fst]
    exact q p hp
theorem zip_fst {β γ : Type} {R : β → γ → Prop} : ∀ {as : List β} {xs : List γ}, Paired R as xs → (as.zip xs).map (·.1) = as ∧ (as.zip xs).map (·.2) = xs ∧ ∀ c ∈ as.zip xs, R c.1 c.2
  | _, _, .nil => ⟨rfl, rfl, fun c h => (nomatch h)⟩
  | _, _, .cons h t => by
    obtain ⟨h1, h2, h3⟩ := zip_fst t
    refine ⟨by simp [h1], by simp [h2], fun c hc => ?_⟩
    rcases List.mem_cons.mp (by simpa using hc) with e | e
    · rw [e]; exact h
    · exact h3 c e
theorem cr_srtR (α : Type) [DecidableEq α] [DatumOrd α] (hu : X.A.units + 64 < cLine) (hdp : Datum.depth α ≤ 60 := by decide) : CallR X (.builtin "sorted") (rSrtR X.K α) := by
  intro pins s σ H vs us Q I r h
  obtain ⟨a, as, xs, rfl, hs, hp, hso, q⟩ := h
  obtain ⟨z1, z2, z3⟩ := zip_fst hp
  have em : ∀ cs : List (Addr × α), (cs.map fun c => (V.ref c.1, tD c.2)).map (·.1) = cs.map fun c => V.ref c.1 := fun cs => map_pair_fst cs _ _
  refine cr_sortedDt hu pins s σ H _ us Q I r ⟨a, (as.zip xs).map fun c => (V.ref c.1, tD c.2), rfl, ?_, fun b hb => ?_, ?_, ?_, fun b hb => ?_, fun p hp => ?_⟩
  · rw [em]
    have : (as.zip xs).map (fun c => V.ref c.1) = as.map V.ref := by rw [← z1, List.map_map, z1]; rfl
    rw [this]; exact hs
  · obtain ⟨c, hc, rfl⟩ := List.mem_map.mp hb
    exact z3 c hc
  · intro d hd d' hd'
    simp only [List.map_map, List.mem_map, Function.comp] at hd hd'
    obtain ⟨x, _, rfl⟩ := hd
    obtain ⟨y, _, rfl⟩ := hd'
    exact DatumOrd.alike _ _
  · have hx : ∀ c ∈ as.zip xs, c.2 ∈ xs := fun c hc => by rw [← z2]; exact List.mem_map.mpr ⟨c, hc, rfl⟩
    by_cases em0 : as.zip xs = []
    · rw [em0]; exact .inl fun d hd => (nomatch hd)
    · obtain ⟨c0, hc0⟩ : ∃ c, c ∈ as.zip xs := by
        cases hh : as.zip xs with
        | nil => exact absurd hh em0
        | cons c r => exact ⟨c, by simp⟩
      rcases hso c0.2 (hx c0 hc0) with t | t
      · obtain ⟨x0, r0, e0⟩ := t (tD c0.2) (by simp)
        refine .inl fun d hd => ?_
        simp only [List.map_map, List.mem_map, Function.comp] at hd
        obtain ⟨c, hc, rfl⟩ := hd
        rcases hso c.2 (hx c hc) with t2 | t2
        · exact t2 _ (by simp)
        · have al := DatumOrd.alike c0.2 c.2
          rw [show Datum.toD c0.2 = _ from e0] at al
          have h2 := (t2 (tD c.2) (by simp)).2
          cases hq : (Datum.toD c.2 : PyData) <;> rw [hq] at al <;> simp [PySem.W.alike] at al
          exact absurd hq (h2 _)
      · have t0 := t (tD c0.2) (by simp)
        refine .inr fun d hd => ?_
        simp only [List.map_map, List.mem_map, Function.comp] at hd
        obtain ⟨c, hc, rfl⟩ := hd
        refine ⟨DatumOrd.notNone _, fun ys e => ?_⟩
        have al := DatumOrd.alike c0.2 c.2
        rw [show Datum.toD c.2 = _ from e] at al
        cases hq : (Datum.toD c0.2 : PyData) <;> rw [hq] at al <;> simp [PySem.W.alike] at al
        exact t0.2 _ hq
  · obtain ⟨c, hc, rfl⟩ := List.mem_map.mp hb
    exact Nat.le_trans (Datum.depth_le c.2) hdp
  · have e : (((as.zip xs).map fun c => (V.ref c.1, tD c.2)).mergeSort (dataLe false (·.2))) = ((as.zip xs).mergeSort fun p q => leD p.2 q.2).map fun c => (V.ref c.1, tD c.2) := by
      refine (List.map_mergeSort fun x _ y _ => ?_).symm
      show leD x.2 y.2 = !dataLt (tD y.2) (tD x.2)
      rw [DatumOrd.lt_eq]
      rfl
    rw [e, em]
    refine q _ p (List.mergeSort_perm _ _) ?_ hp
    rw [List.map_mergeSort (s := leD) (fun _ _ _ _ => rfl), z2]
    rfl
/-- sorted(d), keys texts -/
theorem call_srtD (hc : X.calm = true) : CallR X (.builtin "sorted") (fun xs H Q => ∃ (a : Addr) (kvs : List (Key × V)) (ks : List Str), xs = [.ref a] ∧ Rd H a (.dK kvs) ∧ kvs.map (·.1) = ks.map Sum.inr ∧ ks.length < 64 ∧
    ∀ p, H p = none → Q (.ref p) (upd H p (.lst ((srt ks).map V.str)))) := by
  intro pins s σ H xs us Q I r q
  obtain ⟨a, kvs, ks, ex, hd, hks, h64, q⟩ := q
  exact call_sortedD hc pins s σ H xs us Q I r ⟨a, kvs, ks, ex, hd, hks, h64, fun ys p hp hs hn => by rw [sortedS_srt hp hs]; exact q p hn⟩
end
end Five
end
section
namespace Five
open PySem PySem.Spec PyProof.Rows L2
open PySem.W (Datum DatumOrd)
/-! comprehensions over things l, each told by S, what is made by f -/
section
variable {J : It} {n : Nat} {GG : Hp → Prop} {Y : Nat → Hp → V → Hp → Prop} {g : TG} {tt : TT} {te : TE} {vs : List Nat} {σ : L2.St} {H1 : Hp} {D : Addr} {Qd : Hp → Prop} {α β : Type} {M : List Addr} {K : PySem.W.Frag}
theorem lcW (w : Walk J n GG Y) {S : V → β → Prop} (R : Hp → V → α → Prop) (mono : ∀ G G' v x, Same G G' → R G v x → R G' v x) (l : List β) (f : β → Option α) (hD : H1 D = none) (al : Al M H1) (hn : l.length = n) (hsz : n < sizeLine) (hG : ∀ H, Same H1 H → GG H)
    (hY : ∀ i H x H', i < n → Y i H x H' → H' = H ∧ ∃ b, l[i]? = some b ∧ S x b)
    (hs : ∀ v b H (Ky : V → Hp → Prop) (Kn : Hp → Prop), b ∈ l → S v b → Same H1 H → Al (D :: M) H → (∀ y d H4, f b = some d → Same H H4 → R (wo H4 (D :: M)) y d → Ky y H4) → (∀ H3, f b = none → Same H H3 → Kn H3) →
      g v (wipe σ vs) H fun σ2 H2 => wipe σ2 vs = wipe σ vs ∧ tt σ2 H2 fun b H3 => if b = true then te σ2 H3 Ky else Kn H3)
    (hd : ∀ ys H, Same H1 H → H D = some (.lst ys) → Paired (R (wo H (D :: M))) ys (l.filterMap f) → Qd H) :
    ∃ W : Nat → Nat → Hp → Prop, (∃ m, W 0 m (upd H1 D (.lst []))) ∧ ∀ i m H, W i m H →
      (J.stop i H ∧ Qd H) ∨ (J.go i H ∧ ∃ Nx : Hp → Prop, (∀ H', Nx H' → ∃ m', m' < m ∧ W (i + 1) m' H') ∧ ∀ x H', J.yld i H x H' → g x (wipe σ vs) H' fun σ2 H2 => wipe σ2 vs = wipe σ vs ∧ tt σ2 H2 fun b H3 =>
        if b = true then te σ2 H3 fun y H4 => ∃ acc, H4 D = some (.lst acc) ∧ acc.length < sizeLine ∧ Nx (upd H4 D (.lst (acc ++ [y]))) else Nx H3) := by
  refine lcM w R mono (l.map f) hD al (by rw [List.length_map]; exact hn) hsz hG (fun i x z H H' Ky Kn hi hz s al2 y ky kn => ?_) (fun ys H s h p => hd ys H s h ?_)
  · obtain ⟨e, b, hb, hS⟩ := hY i H x H' hi y
    subst e
    have ez : z = f b := by
      rw [List.getElem?_map, hb] at hz
      exact (Option.some.inj hz).symm
    subst ez
    exact hs x b H' Ky Kn (List.mem_of_getElem? hb) hS s al2 ky kn
  · rw [List.filterMap_map] at p
    exact p
/-- over a list -/
theorem lcL {a : Addr} {xs : List V} {S : V → β → Prop} {l : List β} (hp : Paired S xs l) (R : Hp → V → α → Prop) (mono : ∀ G G' v x, Same G G' → R G v x → R G' v x) (f : β → Option α) (hD : H1 D = none) (al : Al M H1) (hsz : l.length < sizeLine) (hq : SqL K H1 a xs)
    (hs : ∀ v b H (Ky : V → Hp → Prop) (Kn : Hp → Prop), b ∈ l → S v b → Same H1 H → Al (D :: M) H → (∀ y d H4, f b = some d → Same H H4 → R (wo H4 (D :: M)) y d → Ky y H4) → (∀ H3, f b = none → Same H H3 → Kn H3) →
      g v (wipe σ vs) H fun σ2 H2 => wipe σ2 vs = wipe σ vs ∧ tt σ2 H2 fun b H3 => if b = true then te σ2 H3 Ky else Kn H3)
    (hd : ∀ ys H, Same H1 H → H D = some (.lst ys) → Paired (R (wo H (D :: M))) ys (l.filterMap f) → Qd H) :
    ∃ W : Nat → Nat → Hp → Prop, (∃ m, W 0 m (upd H1 D (.lst []))) ∧ ∀ i m H, W i m H →
      ((Itl K a).stop i H ∧ Qd H) ∨ ((Itl K a).go i H ∧ ∃ Nx : Hp → Prop, (∀ H', Nx H' → ∃ m', m' < m ∧ W (i + 1) m' H') ∧ ∀ x H', (Itl K a).yld i H x H' → g x (wipe σ vs) H' fun σ2 H2 => wipe σ2 vs = wipe σ vs ∧ tt σ2 H2 fun b H3 =>
        if b = true then te σ2 H3 fun y H4 => ∃ acc, H4 D = some (.lst acc) ∧ acc.length < sizeLine ∧ Nx (upd H4 D (.lst (acc ++ [y]))) else Nx H3) := by
  have hl := Paired.length hp
  refine lcW (walk_list (xs := xs)) R mono l f hD al hl.symm (by rw [hl]; exact hsz) (fun H s => s.seq hq) (fun i H x H' hi y => ⟨y.1, ?_⟩) hs hd
  obtain ⟨b, h1, h2⟩ := paired_get hp i x y.2
  exact ⟨b, h1, h2⟩
/-- over the keys of a locked dict, all texts -/
theorem lcK {d : Addr} {o : Obj} {kvs : List (Key × V)} {l : List Str} (hp : kvs.map (·.1) = l.map Sum.inr) (R : Hp → V → α → Prop) (mono : ∀ G G' v x, Same G G' → R G v x → R G' v x) (f : Str → Option α) (hD : H1 D = none) (al : Al M H1) (hsz : l.length < sizeLine) (hq : H1 d = some (.frz o (.dK kvs)))
    (hs : ∀ b H (Ky : V → Hp → Prop) (Kn : Hp → Prop), b ∈ l → Same H1 H → Al (D :: M) H → (∀ y d H4, f b = some d → Same H H4 → R (wo H4 (D :: M)) y d → Ky y H4) → (∀ H3, f b = none → Same H H3 → Kn H3) →
      g (.str b) (wipe σ vs) H fun σ2 H2 => wipe σ2 vs = wipe σ vs ∧ tt σ2 H2 fun b H3 => if b = true then te σ2 H3 Ky else Kn H3)
    (hd : ∀ ys H, Same H1 H → H D = some (.lst ys) → Paired (R (wo H (D :: M))) ys (l.filterMap f) → Qd H) :
    ∃ W : Nat → Nat → Hp → Prop, (∃ m, W 0 m (upd H1 D (.lst []))) ∧ ∀ i m H, W i m H →
      ((Itk d o kvs).stop i H ∧ Qd H) ∨ ((Itk d o kvs).go i H ∧ ∃ Nx : Hp → Prop, (∀ H', Nx H' → ∃ m', m' < m ∧ W (i + 1) m' H') ∧ ∀ x H', (Itk d o kvs).yld i H x H' → g x (wipe σ vs) H' fun σ2 H2 => wipe σ2 vs = wipe σ vs ∧ tt σ2 H2 fun b H3 =>
        if b = true then te σ2 H3 fun y H4 => ∃ acc, H4 D = some (.lst acc) ∧ acc.length < sizeLine ∧ Nx (upd H4 D (.lst (acc ++ [y]))) else Nx H3) := by
  have hl : l.length = kvs.length := by have := congrArg List.length hp; simpa using this.symm
  refine lcW (S := fun v b => v = V.str b) walk_keys R mono l f hD al hl (by omega) (fun H s => s _ _ hq) (fun i H x H' hi y => ?_) (fun v b H Ky Kn hb e => by rw [e]; exact hs b H Ky Kn hb) hd
  obtain ⟨e, k, v, h1, h2⟩ := y
  refine ⟨e, ?_⟩
  have h3 : (kvs.map (·.1))[i]? = some k := by rw [List.getElem?_map, h1]; rfl
  rw [hp, List.getElem?_map] at h3
  cases q : l[i]? with
  | none => rw [q] at h3; cases h3
  | some b =>
    rw [q] at h3
    refine ⟨b, rfl, ?_⟩
    have : k = Sum.inr b := (Option.some.inj h3).symm
    rw [h2, this]
    rfl
end
theorem filterMap_some {α β : Type} (f : β → α) (l : List β) : l.filterMap (fun b => some (f b)) = l.map f := by induction l <;> simp_all
theorem paired_map {α β : Type} (c : α → β) (l : List α) : Paired (fun v b => v = c b) (l.map c) l := by
  induction l with
  | nil => exact .nil
  | cons a r ih => exact .cons rfl ih
theorem paired_refs' {α : Type} {R : Addr → α → Prop} : ∀ {as : List Addr} {l : List α}, Paired R as l → Paired (fun v x => ∃ a, v = V.ref a ∧ R a x) (as.map V.ref) l
  | _, _, .nil => .nil
  | _, _, .cons h t => .cons ⟨_, rfl, h⟩ (paired_refs' t)
theorem paired_mono {α β : Type} {R R' : α → β → Prop} (f : ∀ a b, R a b → R' a b) {l : List α} {m : List β} (h : Paired R l m) : Paired R' l m := Paired.mapP h f
/-! sorted lists -/
section
variable {α : Type} [DecidableEq α] [DatumOrd α] {ss : List α} {u x : α} {i : Nat}
theorem srt_before (hp : ss.Pairwise (fun a b => leD a b = true)) (hi : ss[i]? = some u) (hx : x ∈ ss) (h : DatumOrd.lt x u = true) : x ∈ ss.take i := by
  have hlt : i < ss.length := (List.getElem?_eq_some_iff.mp hi).1
  have e : ss = ss.take i ++ u :: ss.drop (i + 1) := by
    conv => lhs; rw [← List.take_append_drop i ss]
    congr 1
    rw [List.drop_eq_getElem_cons hlt]
    congr 1
    exact (List.getElem?_eq_some_iff.mp hi).2
  rw [e] at hx hp
  rcases List.mem_append.mp hx with q | q
  · exact q
  · exfalso
    have h2 := (List.pairwise_append.mp hp).2.1
    rcases List.mem_cons.mp q with q | q
    · rw [q, lt_irr] at h; cases h
    · have := (List.pairwise_cons.mp h2).1 x q
      unfold leD at this
      rw [h] at this
      cases this
theorem srt_after (hp : ss.Pairwise (fun a b => leD a b = true)) (hn : ss.Nodup) (hi : ss[i]? = some u) (hx : x ∈ ss.take i) : DatumOrd.lt x u = true := by
  have hlt : i < ss.length := (List.getElem?_eq_some_iff.mp hi).1
  have e : ss = ss.take i ++ u :: ss.drop (i + 1) := by
    conv => lhs; rw [← List.take_append_drop i ss]
    congr 1
    rw [List.drop_eq_getElem_cons hlt]
    congr 1
    exact (List.getElem?_eq_some_iff.mp hi).2
  rw [e] at hp hn
  have h1 := (List.pairwise_append.mp hp).2.2 x hx u (by simp)
  have h2 := (List.nodup_append.mp hn).2.2 x hx u (by simp)
  cases q : DatumOrd.lt x u with
  | true => rfl
  | false =>
    unfold leD at h1
    exact absurd (lt_tri q (by simpa using h1)) h2
theorem srt_head {c : List α} (hc : c ≠ []) : ∃ h t, srt c = h :: t ∧ h ∈ c ∧ ∀ y ∈ c, leD h y = true := by
  cases e : srt c with
  | nil =>
    have := srt_length c
    rw [e] at this
    cases c with
    | nil => exact absurd rfl hc
    | cons _ _ => simp at this
  | cons h t =>
    refine ⟨h, t, rfl, srt_mem.mp (by rw [e]; simp), fun y hy => ?_⟩
    have hy : y ∈ h :: t := by rw [← e]; exact srt_mem.mpr hy
    have hp := srt_pw c
    rw [e] at hp
    rcases List.mem_cons.mp hy with q | q
    · rw [q]; unfold leD; rw [lt_irr]; rfl
    · exact (List.pairwise_cons.mp hp).1 y q
theorem lt_cons {h k : α} {t r : List α} (e : DatumOrd.lt h k = true) : DatumOrd.lt (h :: t) (k :: r) = true := by
  show PySem.W.listLt (h :: t) (k :: r) = true
  have ne : h ≠ k := fun q => by rw [q, lt_irr] at e; cases e
  rw [PySem.W.listLt, if_neg ne]
  exact e
end
end Five
namespace Five
open PySem PySem.Spec PyProof.Rows L2
open PySem.W (Datum DatumOrd)
theorem lcy {σ : L2.St} {H : Hp} {te : TE} {Ky : V → Hp → Prop} {Kn : Hp → Prop} (h : te σ H Ky) : tYes σ H fun b H3 => if b = true then te σ H3 Ky else Kn H3 := by
  show if true = true then te σ H Ky else Kn H
  rw [if_pos rfl]
  exact h
theorem flat_srt_perm {α : Type} [DecidableEq α] [DatumOrd α] : ∀ dn : List (List α), (dn.map srt).flatten.Perm dn.flatten
  | [] => .refl _
  | a :: r => List.Perm.append (srt_perm a) (flat_srt_perm r)
theorem flat_srt_len {α : Type} [DecidableEq α] [DatumOrd α] (dn : List (List α)) : (dn.map srt).flatten.length = dn.flatten.length := (flat_srt_perm dn).length_eq
theorem flat_len_le {α : Type} : ∀ {dn : List (List α)}, (∀ c ∈ dn, c ≠ []) → dn.length ≤ dn.flatten.length
  | [], _ => Nat.zero_le _
  | a :: r, h => by
    have h1 := h a (by simp)
    have h2 := flat_len_le (dn := r) fun c hc => h c (List.mem_cons_of_mem _ hc)
    have h3 : 1 ≤ a.length := by
      cases a with
      | nil => exact absurd rfl h1
      | cons _ _ => simp
    simp only [List.flatten_cons, List.length_append, List.length_cons]
    omega
theorem pairs_tk {K : PySem.W.Frag} {G H : Hp} (s : Same G H) : ∀ {ts : List Addr} {ys : List Str}, Paired (fun t x => SqT K G t [.str x, .bl true]) ts ys → Paired (fun p kv => SqT K H p [kV kv.1, kv.2]) ts (tk ys)
  | _, _, .nil => .nil
  | _, _, .cons h t => .cons (s.sm.seqT h) (pairs_tk s t)
end Five
end
section
namespace Five
open PySem PySem.Spec PyProof.Rows L2
open PySem.W (Datum DatumOrd minOf)
/-! a list turned to begin with its least -/
section
variable {α : Type} [DecidableEq α] [DatumOrd α]
theorem leD_refl (a : α) : leD a a = true := by unfold leD; rw [lt_irr]; rfl
theorem minOf_is : ∀ (r : List α) (x : α), minOf x r ∈ x :: r ∧ ∀ y ∈ x :: r, leD (minOf x r) y = true
  | [], x => ⟨by simp [minOf], fun y hy => by
      have e : y = x := by simpa using hy
      rw [e]
      exact leD_refl x⟩
  | a :: r, x => by
    have e : minOf x (a :: r) = minOf (if DatumOrd.lt a x = true then a else x) r := rfl
    rw [e]
    by_cases c : DatumOrd.lt a x = true
    · rw [if_pos c]
      obtain ⟨h1, h2⟩ := minOf_is r a
      refine ⟨List.mem_cons_of_mem _ h1, fun y hy => ?_⟩
      rcases List.mem_cons.mp hy with q | hy
      · rw [q]
        refine leD_trans _ _ _ (h2 a (by simp)) ?_
        unfold leD
        rw [lt_asym c]
        rfl
      · exact h2 y hy
    · rw [if_neg c]
      obtain ⟨h1, h2⟩ := minOf_is r x
      refine ⟨?_, fun y hy => ?_⟩
      · rcases List.mem_cons.mp h1 with q | q
        · rw [q]; simp
        · exact List.mem_cons_of_mem _ (List.mem_cons_of_mem _ q)
      · rcases List.mem_cons.mp hy with q | hy
        · rw [q]; exact h2 x (by simp)
        · rcases List.mem_cons.mp hy with q | hy
          · rw [q]
            refine leD_trans _ _ _ (h2 x (by simp)) ?_
            unfold leD
            simpa using c
          · exact h2 y (List.mem_cons_of_mem _ hy)
def flD (l : List α) : List α := match l with
  | [] => []
  | x :: r => (x :: r).drop ((x :: r).idxOf (minOf x r)) ++ (x :: r).take ((x :: r).idxOf (minOf x r))
theorem flD_rot {l X Y : List α} {m : α} (e : l = X ++ m :: Y) (hX : m ∉ X) (h : ∀ y ∈ l, leD m y = true) : flD l = m :: Y ++ X := by
  cases l with
  | nil => simp at e
  | cons x r =>
    have h2 := minOf_is r x
    have em : minOf x r = m := leD_anti (h2.2 m (by rw [e]; simp)) (h _ h2.1)
    show (x :: r).drop ((x :: r).idxOf (minOf x r)) ++ (x :: r).take ((x :: r).idxOf (minOf x r)) = _
    have ei : (x :: r).idxOf m = X.length := by
      rw [e]
      refine idx_first (by simp) fun k z hk hz ez => ?_
      rw [List.getElem?_append_left hk, ez] at hz
      exact hX (List.mem_of_getElem? hz)
    rw [em, ei, e]
    simp
theorem flD_perm (l : List α) : (flD l).Perm l := by
  cases l with
  | nil => exact .refl _
  | cons x r =>
    refine List.perm_append_comm.trans ?_
    rw [List.take_append_drop]
theorem flD_mem {l : List α} {x : α} : x ∈ flD l ↔ x ∈ l := (flD_perm l).mem_iff
theorem flat_flD_perm : ∀ dn : List (List α), (dn.map flD).flatten.Perm dn.flatten
  | [] => .refl _
  | a :: r => List.Perm.append (flD_perm a) (flat_flD_perm r)
end
theorem lt_pair (s t : Str × Str) : DatumOrd.lt s t = true ↔ (s.1 = t.1 ∧ DatumOrd.lt s.2 t.2 = true) ∨ (s.1 ≠ t.1 ∧ DatumOrd.lt s.1 t.1 = true) := by
  show (if s.1 = t.1 then DatumOrd.lt s.2 t.2 else DatumOrd.lt s.1 t.1) = true ↔ _
  by_cases h : s.1 = t.1
  · simp [h]
  · simp [h]
/-! dicts of pairs -/
def tkT (l : List (Str × Str)) : List (List Key × V) := l.map fun s => ([Sum.inr s.1, Sum.inr s.2], V.bl true)
theorem valV_tkT (p q : Str) : ∀ l : List (Str × Str), valV (tkT l) [Sum.inr p, Sum.inr q] = if (p, q) ∈ l then some (.bl true) else none
  | [] => rfl
  | a :: r => by
    show valV (([Sum.inr a.1, Sum.inr a.2], V.bl true) :: tkT r) [Sum.inr p, Sum.inr q] = _
    by_cases e : a = (p, q)
    · rw [valV_pos (by rw [e]), if_pos (by simp [e])]
    · rw [valV_neg (fun z => e ?_), valV_tkT p q r]
      · have e' : ¬ (p, q) = a := fun z => e z.symm
        by_cases h : (p, q) ∈ r <;> simp [h, e']
      · simp at z
        exact Prod.ext z.1 z.2
theorem putK_tkT {s : Str × Str} {l : List (Str × Str)} (h : s ∉ l) : putK (tkT l) [Sum.inr s.1, Sum.inr s.2] (.bl true) = tkT (l ++ [s]) := by
  have hv : valV (tkT l) [Sum.inr s.1, Sum.inr s.2] = none := by rw [valV_tkT, if_neg h]
  rw [putK_new _ hv]
  unfold tkT
  rw [List.map_append]
  rfl
theorem mergeT_tkT : ∀ (ys l : List (Str × Str)), (l ++ ys).Nodup → mergeT (tkT l) (tkT ys) = tkT (l ++ ys)
  | [], l, _ => by show tkT l = tkT (l ++ []); rw [List.append_nil]
  | y :: r, l, h => by
    have hy : y ∉ l := fun q => (List.nodup_append.mp h).2.2 y q y (by simp) rfl
    show mergeT (putK (tkT l) [Sum.inr y.1, Sum.inr y.2] (.bl true)) (tkT r) = _
    rw [putK_tkT hy, mergeT_tkT r (l ++ [y]) (by simpa using h)]
    simp
theorem tkT_length (l : List (Str × Str)) : (tkT l).length = l.length := by unfold tkT; rw [List.length_map]
theorem dget_tkT {K : PySem.W.Frag} {H : Hp} {d t : Addr} {l : List (Str × Str)} {s : Str × Str} (h : H d = some (.dT (tkT l))) (ht : T2 K H t s) : DGet H d (.ref t) (if s ∈ l then some (.bl true) else none) := by
  rw [← valV_tkT]
  exact DGet.t (k := [Sum.inr s.1, Sum.inr s.2]) h ht
theorem pairs_tkT {K : PySem.W.Frag} {G H : Hp} (s : Same G H) : ∀ {ts : List Addr} {ys : List (Str × Str)}, Paired (fun p x => ∃ t, T2 K G t x ∧ SqT K G p [.ref t, .bl true]) ts ys → Paired (fun p kv => ∃ b, H b = some (.tup (kv.1.map kV)) ∧ SqT K H p [.ref b, kv.2]) ts (tkT ys)
  | _, _, .nil => .nil
  | _, _, .cons ⟨t, h1, h2⟩ r => .cons ⟨t, s _ _ h1, s.sm.seqT h2⟩ (pairs_tkT s r)
/-! locks -/
theorem unlock_all {H H' : Hp} {d : Addr} {od : Obj} {u : HO} {N : List Addr} (hd : H d = some u) (s : Same (upd H d (.frz od u)) H') (hn : d ∉ N) : H' d = some (.frz od u) ∧ Same H (upd H' d u) ∧ Sm (wo H' N) (wo (upd H' d u) N) := by
  have h1 : H' d = some (.frz od u) := s _ _ upd_same
  refine ⟨h1, unlock_same hd s, ?_⟩
  rw [wo_new hn]
  exact unlock_sm (od := od) (by rw [wo_out hn]; exact h1)
theorem rds_x {K : PySem.W.Frag} {H : Hp} {d : Addr} {rows : List Row} (h : RdsAt K H d rows) (hx : ∃ kvs, H d = some (.dK kvs)) : ∃ kvs, H d = some (.dK kvs) ∧ Paired (RowKV K H) kvs rows := by
  obtain ⟨kvs, h1, h2⟩ := h
  obtain ⟨kvs', h3⟩ := hx
  rcases h1 with h1 | ⟨o, h1⟩
  · exact ⟨kvs, h1, h2⟩
  · rw [h3] at h1; cases h1
theorem rds_out {K : PySem.W.Frag} {H : Hp} {M : List Addr} {d : Addr} {rows : List Row} (h : RdsAt K (wo H M) d rows) : d ∉ M := by
  obtain ⟨kvs, h1, _⟩ := h
  intro q
  rcases h1 with h1 | ⟨o, h1⟩ <;> rw [wo_in q] at h1 <;> cases h1
theorem darts_len {α : Type} [DecidableEq α] {vs : List α} {rd : α → List α} (w : Wf vs rd) : (darts vs rd).length ≤ vs.length * vs.length := by
  have key : ∀ l : List α, (∀ v ∈ l, v ∈ vs) → (darts l rd).length ≤ l.length * vs.length := by
    intro l
    induction l with
    | nil => intro _; simp [darts]
    | cons v r ih =>
      intro h
      have e : darts (v :: r) rd = (rd v).map (fun u => (v, u)) ++ darts r rd := rfl
      rw [e, List.length_append, List.length_map, List.length_cons, Nat.succ_mul]
      have h1 := ih fun u hu => h u (List.mem_cons_of_mem _ hu)
      have h2 : (rd v).length ≤ vs.length := nodup_le (w.rn v (h v (by simp))) fun u hu => (w.ties v (h v (by simp)) u hu).1
      omega
  exact key vs fun _ h => h
/-- the faces told -/
def lonesF (rows : List Row) : List (List Str) := (vsf rows).filterMap fun v => if rdf rows v = [] then some [v] else none
def facesF (rows : List Row) (cs : List (List (Str × Str))) : List (List Str) := srt (lonesF rows ++ cs.map fun c => (flD c).map (·.1))
end Five
end
section
namespace Five
open PySem PySem.Spec PyProof.Rows L2
open PySem.W (Datum DatumOrd)
/-! rules by the written part K, told -/
section
variable {X : Cx} {K : PySem.W.Frag}
def rLenQ (K : PySem.W.Frag) : List V → Hp → VK → Prop := fun xs H Q => ∃ p ys, xs = [.ref p] ∧ (SqL K H p ys ∨ SqT K H p ys) ∧ Q (.int ys.length) H
def rListQ (K : PySem.W.Frag) : List V → Hp → VK → Prop := fun xs H Q => ∃ p ys, xs = [.ref p] ∧ (SqL K H p ys ∨ SqT K H p ys) ∧ ∀ l, H l = none → Q (.ref l) (upd H l (.lst ys))
theorem pg_tupK {es : List Expr} {k : Nat} {t : TGs} {pos : Pos} (n : Nat) (hc : X.calm = true) (h : PGs X es t) (hK : X.K = K := by rfl) (hn : (assignEach es X.env).length = n := by rfl) (hst : (assignEach es X.env).findIdx? (·.1) = none := by rfl) : PG X (.Tuple es k pos) (gTup K n t) := by subst hK; exact pg_tup hc h hn hst
theorem ix_listK (hK : X.K = K := by rfl) : IxR X (rIxL K) := by subst hK; exact ix_list
theorem ix_tupK (hK : X.K = K := by rfl) : IxR X (rIxT K) := by subst hK; exact ix_tup
theorem sl_listK (hK : X.K = K := by rfl) : SlR X (rSlL K) := by subst hK; exact sl_list
theorem op_inK (hK : X.K = K := by rfl) : OpR X (compareOp .In) (rIn K false) := by subst hK; exact op_in_seq
theorem op_notInK (hK : X.K = K := by rfl) : OpR X (compareOp .NotIn) (rIn K true) := by subst hK; exact op_notIn_seq
theorem op_catTK (hK : X.K = K := by rfl) : OpR X (binaryOp .Add) (rCatT K) := by subst hK; exact op_catT
theorem call_lenK (hK : X.K = K := by rfl) : CallR X (.builtin "len") (rLenQ K) := by subst hK; exact call_len_seq
theorem call_listK (hK : X.K = K := by rfl) : CallR X (.type "list") (rListQ K) := by subst hK; exact call_list_of
theorem cr_sumK (hc : X.calm = true) (hK : X.K = K := by rfl) : CallR X (.builtin "sum") (rSum K) := by subst hK; exact cr_sum hc
theorem cr_maxK (hc : X.calm = true) (hK : X.K = K := by rfl) : CallR X (.builtin "max") (rMax K) := by subst hK; exact cr_max hc
theorem cr_minK (hc : X.calm = true) (hK : X.K = K := by rfl) : CallR X (.builtin "min") (rMin K) := by subst hK; exact cr_min hc
theorem cr_anyK (hc : X.calm = true) (hK : X.K = K := by rfl) : CallR X (.builtin "any") (rAny K) := by subst hK; exact cr_any hc
theorem cr_allK (hc : X.calm = true) (hK : X.K = K := by rfl) : CallR X (.builtin "all") (rAll K) := by subst hK; exact cr_all hc
theorem mt_indexK (hK : X.K = K := by rfl) : MtR X "list.index" (rIndex K) := by subst hK; exact mt_index
theorem call_isiK' (hK : X.K = K := by rfl) : CallR X (.builtin "isinstance") (rIsi K) := by subst hK; exact call_isi
def rDictQ (K : PySem.W.Frag) : List V → Hp → VK → Prop := fun xs H Q => ∃ (a : Addr) (ps : List Addr) (kvs : List (Key × V)), xs = [.ref a] ∧ SqL K H a (ps.map V.ref) ∧ Paired (fun p kv => SqT K H p [kV kv.1, kv.2]) ps kvs ∧ ∀ p, H p = none → Q (.ref p) (upd H p (.dK (mergeK [] kvs)))
theorem call_dictK (hc : X.calm = true) (hK : X.K = K := by rfl) : CallR X (.type "dict") (rDictQ K) := by
  subst hK
  intro pins s σ H xs us Q I r h
  exact call_dictP hc pins s σ H xs us Q I r h
theorem op_eqK (α : Type) [DecidableEq α] [Datum α] (hu : X.A.units + 64 < cLine) (hd : Datum.depth α ≤ 60 := by decide) (hK : X.K = K := by rfl) : OpR X (compareOp .Eq) (rEqT K α) := by subst hK; exact op_eqT α hu hd
theorem op_neK (α : Type) [DecidableEq α] [Datum α] (hu : X.A.units + 64 < cLine) (hd : Datum.depth α ≤ 60 := by decide) (hK : X.K = K := by rfl) : OpR X (compareOp .NotEq) (rNeT K α) := by subst hK; exact op_neT α hu hd
theorem op_inTK (α : Type) [DecidableEq α] [Datum α] (hu : X.A.units + 64 < cLine) (hd : Datum.depth α ≤ 60 := by decide) (hK : X.K = K := by rfl) : OpR X (compareOp .In) (rInT K α) := by subst hK; exact op_inT α hu hd
theorem op_notInTK (α : Type) [DecidableEq α] [Datum α] (hu : X.A.units + 64 < cLine) (hd : Datum.depth α ≤ 60 := by decide) (hK : X.K = K := by rfl) : OpR X (compareOp .NotIn) (rNotInT K α) := by subst hK; exact op_notInT α hu hd
theorem cr_srtSK (hu : X.A.units + 64 < cLine) (hK : X.K = K := by rfl) : CallR X (.builtin "sorted") (rSrtS K) := by subst hK; exact cr_srtS hu
theorem cr_srtRK (α : Type) [DecidableEq α] [DatumOrd α] (hu : X.A.units + 64 < cLine) (hd : Datum.depth α ≤ 60 := by decide) (hK : X.K = K := by rfl) : CallR X (.builtin "sorted") (rSrtR K α) := by subst hK; exact cr_srtR α hu hd
theorem cr_minSK (hc : X.calm = true) (hu : X.A.units + 64 < cLine) (hK : X.K = K := by rfl) : CallR X (.builtin "min") (rMinS K) := by subst hK; exact cr_minS hc hu
theorem mt_updatePK (hc : X.calm = true) (hK : X.K = K := by rfl) : MtR X "dict.update" (rUpdP K) := by subst hK; exact mt_updateP hc
theorem mt_updateTK (hc : X.calm = true) (hu : X.A.units + 64 < cLine) (hK : X.K = K := by rfl) : MtR X "dict.update" (rUpdT K) := by subst hK; exact mt_updateT hc hu
end
end Five
end
section
namespace Five
open PySem PySem.Spec PyProof.Rows L2
open PySem.W (Datum DatumOrd)
abbrev abc : Str := "abcdefghijklmnopqrstuvwxyz"
def isNm (x : Str) : Bool := decide (1 ≤ x.length) && decide (x.length ≤ 8) && (x.cps.toList.map fun c => decide (c ∈ abc.cps.toList)).all id
theorem abc_mem (c : Nat) : c ∈ abc.cps.toList ↔ 97 ≤ c ∧ c ≤ 122 := by
  have e : abc.cps.toList = [97, 98, 99, 100, 101, 102, 103, 104, 105, 106, 107, 108, 109, 110, 111, 112, 113, 114, 115, 116, 117, 118, 119, 120, 121, 122] := by decide +kernel
  rw [e]
  simp only [List.mem_cons, List.not_mem_nil, or_false]
  omega
theorem isNm_iff (x : Str) : isNm x = true ↔ Nm x := by
  unfold isNm Nm
  simp only [Bool.and_eq_true, decide_eq_true_eq, List.all_eq_true, List.mem_map, id]
  constructor
  · rintro ⟨⟨h1, h2⟩, h3⟩
    exact ⟨h1, h2, fun c hc => (abc_mem c).mp (of_decide_eq_true (h3 _ ⟨c, hc, rfl⟩))⟩
  · rintro ⟨h1, h2, h3⟩
    exact ⟨⟨h1, h2⟩, fun b ⟨c, hc, e⟩ => by rw [← e]; exact decide_eq_true ((abc_mem c).mpr (h3 c hc))⟩
/-- over the signs of a text -/
theorem lcT {z : Str} {g : TG} {tt : TT} {te : TE} {vs : List Nat} {σ : L2.St} {H1 : Hp} {D : Addr} {Qd : Hp → Prop} {α : Type} {M : List Addr}
    (R : Hp → V → α → Prop) (mono : ∀ G G' v x, Same G G' → R G v x → R G' v x) (f : Nat → Option α) (hD : H1 D = none) (al : Al M H1) (hsz : z.cps.toList.length < sizeLine)
    (hs : ∀ c H (Ky : V → Hp → Prop) (Kn : Hp → Prop), c ∈ z.cps.toList → Same H1 H → Al (D :: M) H → (∀ y d H4, f c = some d → Same H H4 → R (wo H4 (D :: M)) y d → Ky y H4) → (∀ H3, f c = none → Same H H3 → Kn H3) →
      g (.str ⟨#[c]⟩) (wipe σ vs) H fun σ2 H2 => wipe σ2 vs = wipe σ vs ∧ tt σ2 H2 fun b H3 => if b = true then te σ2 H3 Ky else Kn H3)
    (hd : ∀ ys H, Same H1 H → H D = some (.lst ys) → Paired (R (wo H (D :: M))) ys (z.cps.toList.filterMap f) → Qd H) :
    ∃ W : Nat → Nat → Hp → Prop, (∃ m, W 0 m (upd H1 D (.lst []))) ∧ ∀ i m H, W i m H →
      ((Its z).stop i H ∧ Qd H) ∨ ((Its z).go i H ∧ ∃ Nx : Hp → Prop, (∀ H', Nx H' → ∃ m', m' < m ∧ W (i + 1) m' H') ∧ ∀ x H', (Its z).yld i H x H' → g x (wipe σ vs) H' fun σ2 H2 => wipe σ2 vs = wipe σ vs ∧ tt σ2 H2 fun b H3 =>
        if b = true then te σ2 H3 fun y H4 => ∃ acc, H4 D = some (.lst acc) ∧ acc.length < sizeLine ∧ Nx (upd H4 D (.lst (acc ++ [y]))) else Nx H3) := by
  refine lcW (S := fun v c => v = V.str ⟨#[c]⟩) walk_str R mono z.cps.toList f hD al (by simp) (by simpa using hsz) (fun H s => trivial) (fun i H x H' hi y => ?_) (fun v b H Ky Kn hb e => by rw [e]; exact hs b H Ky Kn hb) hd
  obtain ⟨e, c, h1, h2⟩ := y
  exact ⟨e, c, by simpa using h1, h2⟩
theorem str_len (x : Str) : x.cps.toList.length = x.length := by simp [Str.length]
end Five
end
section
namespace Five
open PySem PySem.Spec PyProof.Rows L2
open PySem.W (Datum DatumOrd)
def hdS : List Str → Str
  | [] => Str.empty
  | x :: _ => x
theorem hdS_one (v : Str) : hdS [v] = v := rfl
theorem fm_count {c : List Str} {rows : List Row} : ∀ vs : List Str, ((vs.filterMap fun v => if rdf rows v = [] then some [v] else none).filter fun f => decide (hdS f ∈ c)).length = ((vs.filter fun v => decide (v ∈ c)).countP fun v => (rdf rows v).isEmpty)
  | [] => rfl
  | v :: r => by
    rw [List.filterMap_cons]
    have ih := fm_count (c := c) (rows := rows) r
    by_cases h1 : rdf rows v = []
    · rw [if_pos h1]
      simp only [List.filter_cons]
      by_cases h2 : v ∈ c
      · simp [h2, h1, ih, hdS_one]
      · simp [h2, ih, hdS_one]
    · rw [if_neg h1]
      simp only [List.filter_cons]
      by_cases h2 : v ∈ c
      · have : (rdf rows v).isEmpty = false := by simpa using h1
        simp [h2, this, ih]
      · simp [h2, ih]
theorem count_lone {rows : List Row} {c : List Str} (hn : (vsf rows).Nodup) (hc : c.Nodup) (hs : ∀ v ∈ c, v ∈ vsf rows) : ((lonesF rows).filter fun f => decide (hdS f ∈ c)).length = nlone (rdf rows) c := by
  unfold lonesF nlone
  rw [fm_count]
  refine List.Perm.countP_eq _ (perm_of_mem (hn.filter _) hc fun x => ?_)
  simp only [List.mem_filter, decide_eq_true_eq]
  exact ⟨fun h => h.2, fun h => ⟨hs x h, h⟩⟩
theorem hd_flD {c : List (Str × Str)} (h : c ≠ []) : ∃ s ∈ c, hdS ((flD c).map (·.1)) = s.1 := by
  cases e : flD c with
  | nil =>
    have := (flD_perm c).length_eq
    rw [e] at this
    cases c with
    | nil => exact absurd rfl h
    | cons _ _ => simp at this
  | cons s r => exact ⟨s, flD_mem.mp (by rw [e]; simp), rfl⟩
theorem count_faces {rows : List Row} {cs : List (List (Str × Str))} {c : List Str} (F : FD (vsf rows) (rdf rows) cs) (hsh : ∀ v ∈ c, ∀ u ∈ rdf rows v, u ∈ c) : ((cs.map fun w => (flD w).map (·.1)).filter fun f => decide (hdS f ∈ c)).length = nfc cs c := by
  unfold nfc
  rw [List.countP_eq_length_filter, List.filter_map, List.length_map]
  congr 1
  refine List.filter_congr fun w hw => ?_
  simp only [Function.comp]
  obtain ⟨s, hs, e⟩ := hd_flD (cyc_ne (F.cyc w hw))
  rw [e]
  by_cases h : s.1 ∈ c
  · rw [decide_eq_true h, any_yes hs h]
  · rw [decide_eq_false h, any_no fun x hx hxc => h (cyc_shut (vs := vsf rows) hsh (fun y hy => fd_in F hw hy) (F.cyc w hw) hx hxc s hs)]
theorem own_count {rows : List Row} {cs : List (List (Str × Str))} {c : List Str} (hn : (vsf rows).Nodup) (F : FD (vsf rows) (rdf rows) cs) (hc : c.Nodup) (hs : ∀ v ∈ c, v ∈ vsf rows) (hsh : ∀ v ∈ c, ∀ u ∈ rdf rows v, u ∈ c) :
    ((facesF rows cs).filter fun f => decide (hdS f ∈ c)).length = nfc cs c + nlone (rdf rows) c := by
  unfold facesF
  rw [((srt_perm _).filter _).length_eq, List.filter_append, List.length_append, count_lone hn hc hs, count_faces F hsh]
  omega
theorem faces_ne {rows : List Row} {cs : List (List (Str × Str))} (F : FD (vsf rows) (rdf rows) cs) {f : List Str} (h : f ∈ facesF rows cs) : f ≠ [] := by
  unfold facesF at h
  rcases List.mem_append.mp (srt_mem.mp h) with q | q
  · unfold lonesF at q
    obtain ⟨v, _, e⟩ := List.mem_filterMap.mp q
    split at e
    · cases e; simp
    · cases e
  · obtain ⟨w, hw, rfl⟩ := List.mem_map.mp q
    have := cyc_ne (F.cyc w hw)
    intro z
    have e2 := congrArg List.length z
    rw [List.length_map, (flD_perm w).length_eq] at e2
    cases w with
    | nil => exact this rfl
    | cons _ _ => simp at e2
theorem faces_len {rows : List Row} {cs : List (List (Str × Str))} (F : FD (vsf rows) (rdf rows) cs) (wf : Wf (vsf rows) (rdf rows)) (hl : rows.length ≤ 60) : (facesF rows cs).length ≤ 3660 := by
  unfold facesF
  rw [srt_length, List.length_append, List.length_map]
  have h1 : (lonesF rows).length ≤ 60 := Nat.le_trans (List.length_filterMap_le _ _) (by rw [List.length_map]; exact hl)
  have h2 : cs.length ≤ cs.flatten.length := flat_len_le fun c hc => cyc_ne (F.cyc c hc)
  have h3 := F.perm.length_eq
  have h4 := darts_len wf
  have h5 : (vsf rows).length ≤ 60 := by rw [List.length_map]; exact hl
  have h6 : (vsf rows).length * (vsf rows).length ≤ 60 * 60 := Nat.mul_le_mul h5 h5
  omega
theorem deg_sum (rd : Str → List Str) (c : List Str) : (c.map fun v => ((rd v).length : Int)).sum = (deg rd c : Int) := by
  unfold deg
  induction c with
  | nil => rfl
  | cons v r ih => rw [List.map_cons, List.sum_cons, List.map_cons, List.sum_cons, ih]; omega
theorem deg_perm {rd : Str → List Str} {c c' : List Str} (h : c.Perm c') : deg rd c = deg rd c' := by
  unfold deg
  exact (h.map _).sum_nat
end Five
end
section
namespace Five
open PySem PySem.Spec PyProof.Rows L2
open PySem.W (Datum DatumOrd)
theorem rdf_of {rows : List Row} {r : Row} (hn : (vsf rows).Nodup) (h : r ∈ rows) : rdf rows r.1 = r.2 := by
  induction rows with
  | nil => exact nomatch h
  | cons a l ih =>
    obtain ⟨h1, h2⟩ := List.nodup_cons.mp hn
    rw [rdf_cons]
    rcases List.mem_cons.mp h with e | e
    · rw [e, if_pos rfl]
    · rw [if_neg, ih h2 e]
      intro q
      exact h1 (List.mem_map.mpr ⟨r, e, q.symm⟩)
theorem valV_out {kvs : List (Key × V)} {k : Key} (h : k ∉ kvs.map (·.1)) : valV kvs k = none := by
  induction kvs with
  | nil => rfl
  | cons a l ih =>
    rw [valV_neg fun q => h (by rw [← q]; simp)]
    exact ih fun q => h (List.mem_cons_of_mem _ q)
theorem mergeK_app : ∀ (kvs acc : List (Key × V)), ((acc ++ kvs).map (·.1)).Nodup → mergeK acc kvs = acc ++ kvs
  | [], acc, _ => by show acc = acc ++ []; rw [List.append_nil]
  | kv :: r, acc, h => by
    show mergeK (putK acc kv.1 kv.2) r = _
    rw [putK_new _ (valV_out fun q => ?_), mergeK_app r (acc ++ [kv]) (by simpa using h)]
    · simp
    · rw [List.map_append] at h
      exact (List.nodup_append.mp h).2.2 _ q kv.1 (by simp) rfl
theorem mergeK_nodup {kvs : List (Key × V)} (h : (kvs.map (·.1)).Nodup) : mergeK [] kvs = kvs := by
  have := mergeK_app kvs [] (by simpa using h)
  simpa using this
theorem nodup_inr {l : List Str} (h : l.Nodup) : (l.map (Sum.inr : Str → Key)).Nodup := by
  refine List.Pairwise.map _ (fun a b hab e => hab (Sum.inr.inj e)) h
/-- a tuple of a name and a list -/
def RowP (K : PySem.W.Frag) (G : Hp) (t : Addr) (r : Row) : Prop := ∃ b, SqT K G t [.str r.1, .ref b] ∧ LS K G b r.2
instance {K : PySem.W.Frag} : Mn (RowP K) := ⟨fun s ⟨b, h1, h2⟩ => ⟨b, s.seqT h1, Mn.up s h2⟩⟩
theorem kv_of_rows {K : PySem.W.Frag} {G : Hp} : ∀ {ts : List Addr} {rows : List Row}, Paired (RowP K G) ts rows → ∃ kvs, Paired (fun p kv => SqT K G p [kV kv.1, kv.2]) ts kvs ∧ Paired (RowKV K G) kvs rows
  | _, _, .nil => ⟨[], .nil, .nil⟩
  | _, _, .cons (b := r) ⟨b, h1, h2⟩ t => by
    obtain ⟨kvs, h3, h4⟩ := kv_of_rows t
    exact ⟨(Sum.inr r.1, .ref b) :: kvs, .cons h1 h3, .cons ⟨rfl, b, rfl, h2⟩ h4⟩
/-- only what is new -/
def nw (H H' : Hp) : Hp := fun a => if H a = none then H' a else none
theorem nw_get {H H' : Hp} {a : Addr} {o : HO} (h : nw H H' a = some o) : H a = none ∧ H' a = some o := by
  unfold nw at h
  split at h
  · next q => exact ⟨q, h⟩
  · cases h
theorem nw_of {H H' : Hp} {a : Addr} (h : H a = none) : nw H H' a = H' a := by unfold nw; rw [if_pos h]
theorem nw_same {H H' : Hp} : Same (nw H H') H' := fun _ _ h => (nw_get h).2
theorem nw_up {H H1 H2 : Hp} (s : Same H1 H2) : Same (nw H H1) (nw H H2) := fun a o h => by
  obtain ⟨h1, h2⟩ := nw_get h
  rw [nw_of h1]
  exact s _ _ h2
theorem nw_wo {H H' : Hp} {M : List Addr} (al : Al M H) : Same (nw H H') (wo H' M) := fun a o h => by
  obtain ⟨h1, h2⟩ := nw_get h
  rw [wo_out (al.fresh h1)]
  exact h2
theorem nw_back {H H1 H' : Hp} (s : Same H H1) : Same (nw H1 H') (nw H H') := fun a o h => by
  obtain ⟨h1, h2⟩ := nw_get h
  rw [nw_of (s.free h1)]
  exact h2
/-- a new list of names -/
def LsN (H0 : Hp) (G : Hp) (a : Addr) (l : List Str) : Prop := nw H0 G a = some (.lst (l.map V.str))
instance {H0 : Hp} : Ms (LsN H0) := ⟨fun s h => nw_up s _ _ h⟩
theorem LsN.of {H0 H : Hp} {M : List Addr} {a : Addr} {l : List Str} (h0 : H0 a = none) (h : H a = some (.lst (l.map V.str))) (hn : a ∉ M) : LsN H0 (wo H M) a l := by
  show nw H0 (wo H M) a = _
  rw [nw_of h0, wo_out hn]
  exact h
theorem LsN.ls {K : PySem.W.Frag} {H0 G : Hp} {a : Addr} {l : List Str} (h : LsN H0 G a l) : LS K G a l := SqL.of (nw_get h).2
/-- a new list of new lists of names -/
def NewLL (H H' : Hp) (l : Addr) (xs : List (List Str)) : Prop := ∃ as : List Addr, nw H H' l = some (.lst (as.map V.ref)) ∧ Paired (LsN H H') as xs
theorem NewLL.lr {K : PySem.W.Frag} {H H' : Hp} {M : List Addr} {l : Addr} {xs : List (List Str)} (h : NewLL H H' l xs) (al : Al M H) : LR K (LS K) (wo H' M) l xs := by
  obtain ⟨as, h1, h2⟩ := h
  exact ⟨as, SqL.of (nw_wo al _ _ h1), Paired.mapP h2 fun _ _ q => SqL.of (nw_wo al _ _ q)⟩
/-- a tuple of a name and a new list -/
def RowN (K : PySem.W.Frag) (H0 : Hp) (G : Hp) (t : Addr) (r : Row) : Prop := ∃ b, SqT K G t [.str r.1, .ref b] ∧ LS K (nw H0 G) b r.2
instance {K : PySem.W.Frag} {H0 : Hp} : Ms (RowN K H0) := ⟨fun s ⟨b, h1, h2⟩ => ⟨b, s.sm.seqT h1, up (nw_up s) h2⟩⟩
theorem kv_of_rowsN {K : PySem.W.Frag} {H0 G : Hp} : ∀ {ts : List Addr} {rows : List Row}, Paired (RowN K H0 G) ts rows → ∃ kvs, Paired (fun p kv => SqT K G p [kV kv.1, kv.2]) ts kvs ∧ Paired (RowKV K (nw H0 G)) kvs rows
  | _, _, .nil => ⟨[], .nil, .nil⟩
  | _, _, .cons (b := r) ⟨b, h1, h2⟩ t => by
    obtain ⟨kvs, h3, h4⟩ := kv_of_rowsN t
    exact ⟨(Sum.inr r.1, .ref b) :: kvs, .cons h1 h3, .cons ⟨rfl, b, rfl, h2⟩ h4⟩
/-- what a web tells of its rows -/
def webRows (rows : List Row) : List Row := (srt (vsf rows)).map fun v => (v, fl (rdf rows v))
theorem vsf_web (rows : List Row) : vsf (webRows rows) = srt (vsf rows) := by
  unfold webRows vsf
  rw [List.map_map]
  exact List.map_id _
theorem rdf_map {g : Str → List Str} {v : Str} : ∀ {l : List Str}, v ∈ l → rdf (l.map fun v => (v, g v)) v = g v
  | [], h => nomatch h
  | a :: r, h => by
    rw [List.map_cons, rdf_cons]
    by_cases e : a = v
    · rw [if_pos e, e]
    · rw [if_neg e]
      exact rdf_map ((List.mem_cons.mp h).resolve_left fun q => e q.symm)
theorem rdf_web {rows : List Row} {v : Str} (h : v ∈ vsf rows) : rdf (webRows rows) v = fl (rdf rows v) := rdf_map (srt_mem.mpr h)
theorem fl_mem {l : List Str} {x : Str} : x ∈ fl l ↔ x ∈ l := by
  obtain ⟨L, M, e1, e2⟩ := fl_perm l
  rw [e2]
  conv => rhs; rw [e1]
  simp only [List.mem_append]
  exact ⟨fun h => h.symm, fun h => h.symm⟩
theorem fl_Perm (l : List Str) : (fl l).Perm l := by
  obtain ⟨L, M, e1, e2⟩ := fl_perm l
  rw [e2]
  conv => rhs; rw [e1]
  exact List.perm_append_comm
structure RowsOk (rows : List Row) : Prop where
  nm : ∀ v ∈ vsf rows, Nm v
  pl : Pl (vsf rows) (rdf rows)
  len : rows.length ≤ 60
theorem RowsOk.row {rows : List Row} (h : RowsOk rows) {r : Row} (hr : r ∈ rows) : r.1 ∈ vsf rows ∧ rdf rows r.1 = r.2 ∧ r.2.Nodup ∧ (∀ x ∈ r.2, x ∈ vsf rows ∧ x ≠ r.1 ∧ r.1 ∈ rdf rows x) ∧ r.2.length ≤ 60 := by
  have h1 : r.1 ∈ vsf rows := List.mem_map.mpr ⟨r, hr, rfl⟩
  have e := rdf_of h.pl.wf.nd hr
  have h2 := h.pl.wf.rn r.1 h1
  have h3 := h.pl.wf.ties r.1 h1
  rw [e] at h2 h3
  refine ⟨h1, e, h2, h3, Nat.le_trans (nodup_le h2 fun x hx => (h3 x hx).1) ?_⟩
  rw [List.length_map]; exact h.len
theorem paired_app {α β : Type} {R : α → β → Prop} : ∀ {xs : List α} {ys : List β} {xs' : List α} {ys' : List β}, Paired R xs ys → Paired R xs' ys' → Paired R (xs ++ xs') (ys ++ ys')
  | _, _, _, _, .nil, h => h
  | _, _, _, _, .cons r t, h => .cons r (paired_app t h)
def tiesF (rows : List Row) : List (Str × Str) := rows.flatMap fun r => ((srt r.2).filter fun o => decide (r.1.cps.toList < o.cps.toList)).map fun o => (r.1, o)
end Five
end
section
namespace Five
open PySem PySem.Spec PyProof.Rows L2
/-! pots -/
def PotAt (H : Hp) (p : Addr) : Prop := ∃ x y : Int, H p = some (.lst [.int x, .int y]) ∧ 0 ≤ x ∧ 0 ≤ y ∧ y < 2147483648
theorem PotAt.eq {H H' : Hp} {p : Addr} (h : PotAt H p) (e : H' p = H p) : PotAt H' p := by
  obtain ⟨x, y, h1, h2⟩ := h
  exact ⟨x, y, by rw [e]; exact h1, h2⟩
theorem PotAt.same {H H' : Hp} {p : Addr} (h : PotAt H p) (s : Same H H') : PotAt H' p := by
  obtain ⟨x, y, h1, h2⟩ := h
  exact ⟨x, y, s _ _ h1, h2⟩
theorem PotAt.ne {H : Hp} {p : Addr} (h : PotAt H p) : H p ≠ none := by
  obtain ⟨x, y, h1, _⟩ := h
  rw [h1]; exact fun z => nomatch z
/-- all but what stands at p is as it was -/
def But (p : Addr) (H H' : Hp) : Prop := ∀ b, b ≠ p → H' b = H b
theorem But.refl (p : Addr) (H : Hp) : But p H H := fun _ _ => rfl
theorem But.trans {p : Addr} {A B C : Hp} (a : But p A B) (b : But p B C) : But p A C := fun q h => (b q h).trans (a q h)
theorem But.upd (p : Addr) (H : Hp) (o : HO) : But p H (L2.upd H p o) := fun _ h => upd_ne h
theorem But.wo {p : Addr} {H H' : Hp} {M : List Addr} (b : But p H H') (h : p ∈ M) : wo H' M = wo H M := by
  funext a
  by_cases q : a ∈ M
  · rw [wo_in q, wo_in q]
  · rw [wo_out q, wo_out q, b a fun e => q (by rw [e]; exact h)]
theorem But.al {p : Addr} {H H' : Hp} {M : List Addr} (b : But p H H') (al : Al M H) (h : H' p ≠ none) : Al M H' := fun m hm => by
  by_cases q : m = p
  · rw [q]; exact h
  · rw [b m q]; exact al m hm
end Five
namespace Five
open PySem PySem.Spec PyProof.Rows L2
/-- drawn from the pot p; all else is as it was -/
structure Dr (p : Addr) (H H' : Hp) : Prop where
  s : Same (wo H [p]) H'
  pot : PotAt H' p
section
variable {p q : Addr} {H H1 H2 : Hp} {o : HO}
theorem Dr.refl (h : PotAt H p) : Dr p H H := ⟨wo_same, h⟩
theorem Dr.get (d : Dr p H H1) (n : q ≠ p) (h : H q = some o) : H1 q = some o := d.s _ _ (by rw [wo_out (by simpa using n)]; exact h)
theorem Dr.dig (d : Dr p H H1) (b : But p H1 H2) (h : PotAt H2 p) : Dr p H H2 := ⟨fun a o e => by
  obtain ⟨h1, h2⟩ := wo_get e
  rw [b a (by simpa using h2)]
  exact d.s _ _ e, h⟩
theorem Dr.same (d : Dr p H H1) (s : Same H1 H2) : Dr p H H2 := ⟨d.s.trans s, d.pot.same s⟩
theorem Dr.free (d : Dr p H H1) (h : H1 q = none) : H q = none := by
  have n : q ≠ p := fun e => d.pot.ne (by rw [← e]; exact h)
  have := d.s.free h
  rw [wo_out (by simpa using n)] at this
  exact this
theorem Dr.new (d : Dr p H H1) (h : H1 q = none) : Dr p H (upd H1 q o) := d.same (.new h)
theorem Dr.trans (a : Dr p H H1) (b : Dr p H1 H2) : Dr p H H2 := ⟨fun x o e => by
  obtain ⟨h1, h2⟩ := wo_get e
  exact b.s _ _ (by rw [wo_out h2]; exact a.s _ _ e), b.pot⟩
theorem Dr.ne (d : Dr p H H1) (h : H1 q = none) : q ≠ p := fun e => d.pot.ne (by rw [← e]; exact h)
theorem Dr.mut (d : Dr p H H1) (h : H q = none) (n : q ≠ p) : Dr p H (upd H1 q o) := ⟨fun a o' e => by
  obtain ⟨h1, h2⟩ := wo_get e
  rw [upd_ne (ne_of_none h1 h)]
  exact d.s _ _ e, d.pot.eq (upd_ne n.symm)⟩
theorem Dr.wos {M : List Addr} (d : Dr p H H1) : Same (wo H (p :: M)) (wo H1 (p :: M)) := fun a o e => by
  obtain ⟨h1, h2⟩ := wo_get e
  rw [wo_out h2]
  exact d.s _ _ (by rw [wo_out fun z => h2 (by simp at z; simp [z])]; exact h1)
theorem Dr.woL {L M : List Addr} (d : Dr p H H1) (h : ∀ l ∈ L, H l = none) : Same (wo H (p :: M)) (wo H1 (L ++ p :: M)) := fun a o e => by
  obtain ⟨h1, h2⟩ := wo_get e
  have h3 : a ∉ L ++ p :: M := fun z => by
    rcases List.mem_append.mp z with z | z
    · rw [h a z] at h1; cases h1
    · exact h2 z
  rw [wo_out h3]
  exact d.s _ _ (by rw [wo_out fun z => h2 (by simp at z; simp [z])]; exact h1)
theorem Dr.al {M : List Addr} (d : Dr p H H1) (al : Al M H) : Al M H1 := fun m hm e => by
  by_cases q : m = p
  · exact d.pot.ne (by rw [← q]; exact e)
  · exact al m hm (d.free e)
end
end Five
end
section
namespace Five
open PySem PySem.Spec PyProof.Rows L2
/-! names -/
def cnt (L : List Nat) : Nat → List Nat
  | 0 => []
  | n + 1 => cnt L (n / L.length) ++ [L.getD (n % L.length) 0]
termination_by n => n
decreasing_by exact Nat.lt_succ_of_le (Nat.div_le_self _ _)
theorem cnt_zero (L : List Nat) : cnt L 0 = [] := by rw [cnt]
theorem cnt_succ (L : List Nat) (n : Nat) : cnt L (n + 1) = cnt L (n / L.length) ++ [L.getD (n % L.length) 0] := by rw [cnt]
theorem getD_inj {L : List Nat} (h : L.Nodup) {i j : Nat} (hi : i < L.length) (hj : j < L.length) (e : L.getD i 0 = L.getD j 0) : i = j := by
  rw [List.getD_eq_getElem?_getD, List.getD_eq_getElem?_getD, List.getElem?_eq_getElem hi, List.getElem?_eq_getElem hj] at e
  exact (List.getElem_inj h).mp e
theorem cnt_inj {L : List Nat} (hn : L.Nodup) (hl : 0 < L.length) : ∀ (n m : Nat), cnt L n = cnt L m → n = m := by
  intro n
  induction n using Nat.strongRecOn with
  | ind n ih =>
    intro m e
    cases n with
    | zero =>
      cases m with
      | zero => rfl
      | succ m => rw [cnt_zero, cnt_succ] at e; simp at e
    | succ n =>
      cases m with
      | zero => rw [cnt_zero, cnt_succ] at e; simp at e
      | succ m =>
        rw [cnt_succ, cnt_succ] at e
        obtain ⟨e1, e2⟩ := List.append_inj' e rfl
        have h1 := ih (n / L.length) (Nat.lt_succ_of_le (Nat.div_le_self _ _)) _ e1
        have h2 := getD_inj hn (Nat.mod_lt _ hl) (Nat.mod_lt _ hl) (by simpa using e2)
        have h3 := Nat.div_add_mod n L.length
        have h4 := Nat.div_add_mod m L.length
        rw [h1, h2, h4] at h3
        omega
theorem cnt_len {L : List Nat} (hl : 2 ≤ L.length) : ∀ (b n : Nat), n + 2 ≤ 2 ^ (b + 1) → (cnt L n).length ≤ b
  | b, 0, _ => by rw [cnt_zero]; exact Nat.zero_le _
  | 0, n + 1, h => by simp at h
  | b + 1, n + 1, h => by
    rw [cnt_succ, List.length_append, List.length_singleton]
    have h1 : n / L.length ≤ n / 2 := Nat.div_le_div_left hl (by decide)
    have h2 : 2 ^ (b + 1 + 1) = 2 * 2 ^ (b + 1) := by rw [Nat.pow_succ]; omega
    have := cnt_len hl b (n / L.length) (by omega)
    omega
theorem cnt_mem {L : List Nat} (hl : 0 < L.length) : ∀ (n : Nat), ∀ c ∈ cnt L n, c ∈ L := by
  intro n
  induction n using Nat.strongRecOn with
  | ind n ih =>
    cases n with
    | zero => intro c hc; rw [cnt_zero] at hc; exact nomatch hc
    | succ n =>
      intro c hc
      rw [cnt_succ] at hc
      rcases List.mem_append.mp hc with q | q
      · exact ih _ (Nat.lt_succ_of_le (Nat.div_le_self _ _)) c q
      · rw [List.mem_singleton.mp q, List.getD_eq_getElem?_getD, List.getElem?_eq_getElem (Nat.mod_lt _ hl)]
        exact List.getElem_mem _
theorem cnt_ne {L : List Nat} (n : Nat) (h : 0 < n) : cnt L n ≠ [] := by
  cases n with
  | zero => exact absurd h (by decide)
  | succ n => rw [cnt_succ]; simp
/-- a text by its signs -/
def txt (l : List Nat) : Str := ⟨l.toArray⟩
theorem txt_cps (l : List Nat) : (txt l).cps.toList = l := rfl
theorem txt_len (l : List Nat) : (txt l).length = l.length := by simp [txt, Str.length]
theorem txt_of (x : Str) : txt x.cps.toList = x := by cases x; rfl
theorem txt_inj {l m : List Nat} (h : txt l = txt m) : l = m := by
  have := congrArg (fun x : Str => x.cps.toList) h
  simpa [txt] using this
theorem txt_app (l m : List Nat) : txt l ++ txt m = txt (l ++ m) := by
  show Str.append (txt l) (txt m) = _
  simp [Str.append, txt]
theorem nm_txt {l : List Nat} (h1 : l ≠ []) (h2 : l.length ≤ 8) (h3 : ∀ c ∈ l, 97 ≤ c ∧ c ≤ 122) : Nm (txt l) := by
  refine ⟨?_, by rw [txt_len]; exact h2, h3⟩
  rw [txt_len]
  cases l with
  | nil => exact absurd rfl h1
  | cons _ _ => simp
theorem abc_at {i : Nat} (h : i < 26) : abc.cps.toList[i]? = some (97 + i) := by
  have e : abc.cps.toList = (List.range 26).map (97 + ·) := by decide +kernel
  rw [e, List.getElem?_map, List.getElem?_range h]
  rfl
def bys : List Nat := [1, 3, 5, 7, 9, 25, 27, 675]
def nmL (c f b : Nat) (L tl : List Nat) (k : Nat) : List Nat :=
  if c = 0 then [97 + (f + b * k) % 676 % 26] else if c = 1 then cnt L (1 + (f + b * k) % 97) else [97 + (f + b * k) % 676 / 26, 97 + (f + b * k) % 676 % 26] ++ tl.take ((f + k) % (tl.length + 1))
theorem by_inj {f b i j : Nat} (hb : b ∈ bys) : (i < 26 → j < 26 → (f + b * i) % 676 % 26 = (f + b * j) % 676 % 26 → i = j) ∧ (i < 97 → j < 97 → (f + b * i) % 97 = (f + b * j) % 97 → i = j) ∧ (i < 676 → j < 676 → (f + b * i) % 676 = (f + b * j) % 676 → i = j) := by
  simp only [bys, List.mem_cons, List.not_mem_nil, or_false] at hb
  rcases hb with e | e | e | e | e | e | e | e <;> subst e <;> refine ⟨?_, ?_, ?_⟩ <;> omega
theorem nmL_inj {c f b : Nat} {L tl : List Nat} (hb : b ∈ bys) (hL : L.Nodup) (hl : 0 < L.length) {i j : Nat} (hi : i < 97) (hj : j < 97) (h0 : c = 0 → i < 26 ∧ j < 26) (e : nmL c f b L tl i = nmL c f b L tl j) : i = j := by
  obtain ⟨h1, h2, h3⟩ := by_inj (f := f) (i := i) (j := j) hb
  unfold nmL at e
  by_cases c0 : c = 0
  · rw [if_pos c0, if_pos c0] at e
    exact h1 (h0 c0).1 (h0 c0).2 (by simpa using e)
  · rw [if_neg c0, if_neg c0] at e
    by_cases c1 : c = 1
    · rw [if_pos c1, if_pos c1] at e
      have := cnt_inj hL hl _ _ e
      exact h2 hi hj (by omega)
    · rw [if_neg c1, if_neg c1] at e
      have e1 : 97 + (f + b * i) % 676 / 26 = 97 + (f + b * j) % 676 / 26 ∧ 97 + (f + b * i) % 676 % 26 = 97 + (f + b * j) % 676 % 26 := by
        simp only [List.cons_append, List.cons.injEq] at e
        exact ⟨e.1, e.2.1⟩
      refine h3 (by omega) (by omega) ?_
      generalize (f + b * i) % 676 = x at *
      generalize (f + b * j) % 676 = y at *
      omega
theorem nmL_nm {c f b : Nat} {L tl : List Nat} (hL : 2 ≤ L.length) (hLm : ∀ c ∈ L, 97 ≤ c ∧ c ≤ 122) (ht : tl.length ≤ 6) (htm : ∀ c ∈ tl, 97 ≤ c ∧ c ≤ 122) (k : Nat) : Nm (txt (nmL c f b L tl k)) := by
  unfold nmL
  split
  · exact nm_txt (by simp) (by simp) (fun c hc => by simp at hc; omega)
  · split
    · refine nm_txt (cnt_ne _ (by omega)) (Nat.le_trans (cnt_len hL 6 _ (by have : (f + b * k) % 97 < 97 := Nat.mod_lt _ (by decide); omega)) (by decide)) fun c hc => hLm c (cnt_mem (by omega) _ c hc)
    · refine nm_txt (by simp) ?_ fun c hc => ?_
      · rw [List.length_append, List.length_take]
        simp only [List.length_cons, List.length_nil]
        omega
      · rcases List.mem_append.mp hc with q | q
        · simp at q
          omega
        · exact htm c (List.mem_of_mem_take q)
theorem nmL_nob {c f b : Nat} {L tl : List Nat} (hL : 2 ≤ L.length) (hLm : ∀ c ∈ L, c ≠ 111) (ht : ∀ c, tl.head? = some c → c = 110) (k : Nat) : nmL c f b L tl k ≠ [110, 111, 98, 111, 100, 121] := by
  intro e
  unfold nmL at e
  by_cases c0 : c = 0
  · rw [if_pos c0] at e
    simp at e
  · rw [if_neg c0] at e
    by_cases c1 : c = 1
    · rw [if_pos c1] at e
      exact hLm 111 (cnt_mem (by omega) (1 + (f + b * k) % 97) 111 (by rw [e]; simp)) rfl
    · rw [if_neg c1] at e
      simp only [List.cons_append, List.nil_append, List.cons.injEq] at e
      have e2 := e.2.2
      cases tl with
      | nil => simp at e2
      | cons t tl =>
        have := ht t rfl
        subst this
        generalize (f + k) % ((110 :: tl).length + 1) = q at e2
        cases q with
        | zero => simp at e2
        | succ q => simp at e2
theorem nobody_txt : ("nobody" : Str) = txt [110, 111, 98, 111, 100, 121] := by decide +kernel
theorem nodup_names {n : Nat} {g : Nat → Str} (h : ∀ i j, i < n → j < n → g i = g j → i = j) : ((List.range n).map g).Nodup := by
  have key : ∀ m, m ≤ n → ((List.range m).map g).Nodup := by
    intro m
    induction m with
    | zero => intro _; simp
    | succ m ih =>
      intro hm
      rw [List.range_succ, List.map_append]
      refine List.nodup_append.mpr ⟨ih (by omega), by simp, fun a ha b hb e => ?_⟩
      obtain ⟨i, hi, rfl⟩ := List.mem_map.mp ha
      have eb : b = g m := by simpa using hb
      rw [eb] at e
      have hi' : i < m := List.mem_range.mp hi
      have := h i m (by omega) (by omega) e
      omega
  exact key n (Nat.le_refl _)
end Five
end
section
namespace Five
open PySem PySem.Spec PyProof.Rows L2
/-! rounds of whole numbers -/
def vsI (n : Nat) : List Int := (List.range n).map fun i : Nat => (i : Int)
def rdI (rds : List (List Int)) (v : Int) : List Int := rds.getD v.toNat []
theorem mem_vsI {n : Nat} {v : Int} : v ∈ vsI n ↔ 0 ≤ v ∧ v < n := by
  unfold vsI
  simp only [List.mem_map, List.mem_range]
  exact ⟨fun ⟨i, h1, h2⟩ => by omega, fun h => ⟨v.toNat, by omega, by omega⟩⟩
theorem vsI_nodup (n : Nat) : (vsI n).Nodup := by
  refine List.Pairwise.map _ (fun a b h e => h (by exact Int.ofNat.inj e)) List.nodup_range
theorem vsI_len (n : Nat) : (vsI n).length = n := by simp [vsI]
theorem vsI_succ (n : Nat) : vsI (n + 1) = vsI n ++ [(n : Int)] := by unfold vsI; rw [List.range_succ]; simp
abbrev LiX (H : Hp) (a : Addr) (l : List Int) : Prop := H a = some (.lst (l.map V.int))
def RnI (H : Hp) (R : Addr) (as : List Addr) (rds : List (List Int)) : Prop := H R = some (.lst (as.map V.ref)) ∧ Paired (LiX H) as rds
theorem RnI.same {H H' : Hp} {R : Addr} {as : List Addr} {rds : List (List Int)} (h : RnI H R as rds) (s : Same H H') : RnI H' R as rds := ⟨s _ _ h.1, Paired.mapP h.2 fun _ _ q => s _ _ q⟩
theorem RnI.len {H : Hp} {R : Addr} {as : List Addr} {rds : List (List Int)} (h : RnI H R as rds) : as.length = rds.length := Paired.length h.2
theorem RnI.at {H : Hp} {R : Addr} {as : List Addr} {rds : List (List Int)} (h : RnI H R as rds) {v : Int} (hv : v ∈ vsI rds.length) : ∃ a, as[v.toNat]? = some a ∧ atI (as.map V.ref) v = some (.ref a) ∧ H a = some (.lst ((rdI rds v).map V.int)) := by
  obtain ⟨h0, h1⟩ := mem_vsI.mp hv
  have hl := h.len
  have hi : v.toNat < as.length := by omega
  have e1 : as[v.toNat]? = some as[v.toNat] := List.getElem?_eq_getElem hi
  obtain ⟨l, e2, e3⟩ := paired_get h.2 _ _ e1
  refine ⟨as[v.toNat], e1, at_map V.ref (j := v.toNat) (by omega) e1, ?_⟩
  unfold rdI
  rw [List.getD_eq_getElem?_getD, e2]
  exact e3
end Five
namespace Five
open PySem PySem.Spec PyProof.Rows L2
theorem paired_set {α β : Type} {R R' : α → β → Prop} : ∀ {as : List α} {xs : List β} {i : Nat} {a : α} {x : β}, Paired R as xs → as.Nodup → as[i]? = some a → (∀ b y, b ≠ a → R b y → R' b y) → R' a x → Paired R' as (xs.set i x)
  | _, _, i, a, x, .nil, _, h, _, _ => by simp at h
  | _, _, 0, a, x, .cons (a := b) r t, hn, h, f, h2 => by
    have e : b = a := by simpa using h
    subst e
    refine .cons h2 ?_
    have hb := (List.nodup_cons.mp hn).1
    have key : ∀ {as : List α} {xs : List β}, Paired R as xs → b ∉ as → Paired R' as xs := by
      intro as xs t
      induction t with
      | nil => intro _; exact .nil
      | cons r t ih => exact fun hb => .cons (f _ _ (fun e => hb (by rw [e]; simp)) r) (ih fun q => hb (List.mem_cons_of_mem _ q))
    exact key t hb
  | _, _, i + 1, a, x, .cons (a := b) r t, hn, h, f, h2 => by
    obtain ⟨h3, h4⟩ := List.nodup_cons.mp hn
    have h' : _ := (by simpa using h : _)
    refine .cons (f _ _ (fun e => h3 ?_) r) (paired_set t h4 h' f h2)
    rw [e]
    exact List.mem_of_getElem? h'
theorem RnI.set {H : Hp} {R : Addr} {as : List Addr} {rds : List (List Int)} (h : RnI H R as rds) (hn : (R :: as).Nodup) {i : Nat} {a : Addr} (ha : as[i]? = some a) (l : List Int) : RnI (upd H a (.lst (l.map V.int))) R as (rds.set i l) := by
  obtain ⟨h1, h2⟩ := List.nodup_cons.mp hn
  refine ⟨?_, paired_set h.2 h2 ha (fun b y e q => ?_) upd_same⟩
  · rw [upd_ne fun e => h1 (by rw [e]; exact List.mem_of_getElem? ha)]
    exact h.1
  · show upd H a _ b = _
    rw [upd_ne e]
    exact q
theorem rdI_set {rds : List (List Int)} {v u : Int} {l : List Int} (hv : v ∈ vsI rds.length) (hu : u ∈ vsI rds.length) : rdI (rds.set v.toNat l) u = if u = v then l else rdI rds u := by
  obtain ⟨a1, a2⟩ := mem_vsI.mp hv
  obtain ⟨b1, b2⟩ := mem_vsI.mp hu
  unfold rdI
  rw [List.getD_eq_getElem?_getD, List.getElem?_set, List.getD_eq_getElem?_getD]
  by_cases e : u = v
  · subst e
    rw [if_pos rfl, if_pos (by omega), if_pos rfl]
    rfl
  · rw [if_neg (by omega), if_neg e]
theorem ins_at {α : Type} (A B : List α) (x q : α) : (A ++ x :: B).take (A.length + 1) ++ [q] ++ (A ++ x :: B).drop (A.length + 1) = A ++ x :: q :: B := by
  have e : A ++ x :: B = (A ++ [x]) ++ B := by simp
  have l : A.length + 1 = (A ++ [x]).length := by simp
  rw [e, l, List.take_left', List.drop_left'] <;> simp
theorem fd_path {α : Type} [DecidableEq α] {vs : List α} {rd : α → List α} (h : Pl vs rd) {s : α × α} (hs : s ∈ darts vs rd) :
    ∃ r, Path (fs rd) s r s ∧ (∀ x ∈ s :: r, x ∈ darts vs rd) ∧ (s :: r).Nodup ∧ r.length ≤ vs.length * vs.length := by
  obtain ⟨cs, ps, F, _⟩ := h.flat
  obtain ⟨T, rest, F2, _⟩ := fd_turn F hs
  have hin : ∀ x ∈ s :: T, x ∈ darts vs rd := fun x hx => fd_in F2 (c := s :: T) (by simp) hx
  have hn : (s :: T).Nodup := by
    have := F2.perm.nodup_iff.mpr (darts_nodup h.wf.nd h.wf.rn)
    rw [List.flatten_cons] at this
    exact (List.nodup_append.mp this).1
  refine ⟨T, F2.cyc (s :: T) (by simp), hin, hn, ?_⟩
  have := nodup_le hn hin
  have h2 := darts_len h.wf
  simp only [List.length_cons] at this
  omega
end Five
namespace Five
open PySem PySem.Spec PyProof.Rows L2
theorem Pl.nil {α : Type} [DecidableEq α] {rd : α → List α} : Pl [] rd :=
  ⟨⟨by simp, fun _ h => (nomatch h), fun _ h => (nomatch h)⟩, [], [], ⟨by simp [darts], fun _ h => (nomatch h)⟩, ⟨by simp, fun _ h => (nomatch h), fun _ h => (nomatch h)⟩, fun _ h => (nomatch h)⟩
theorem rdI_app {rds : List (List Int)} {v : Int} {l : List Int} (hv : v ∈ vsI rds.length) : rdI (rds ++ [l]) v = rdI rds v := by
  obtain ⟨a1, a2⟩ := mem_vsI.mp hv
  unfold rdI
  rw [List.getD_eq_getElem?_getD, List.getElem?_append_left (by omega), List.getD_eq_getElem?_getD]
theorem rdI_last {rds : List (List Int)} {l : List Int} : rdI (rds ++ [l]) (rds.length : Int) = l := by
  unfold rdI
  rw [List.getD_eq_getElem?_getD]
  simp
theorem RnI.push {H : Hp} {R a : Addr} {as : List Addr} {rds : List (List Int)} {l : List Int} (h : RnI H R as rds) (hR : R ∉ as) (ha : H a = some (.lst (l.map V.int))) (hn : a ≠ R) : RnI (upd H R (.lst (as.map V.ref ++ [.ref a]))) R (as ++ [a]) (rds ++ [l]) := by
  refine ⟨by rw [upd_same]; simp, paired_snoc ?_ (by show upd H R _ a = _; rw [upd_ne hn]; exact ha)⟩
  have key : ∀ {bs : List Addr} {xs : List (List Int)}, R ∉ bs → Paired (LiX H) bs xs → Paired (LiX (upd H R (.lst (as.map V.ref ++ [.ref a])))) bs xs := by
    intro bs xs hb t
    induction t with
    | nil => exact .nil
    | cons r t ih => exact .cons (by show upd H R _ _ = _; rw [upd_ne fun e => hb (by rw [e]; simp)]; exact r) (ih fun q => hb (List.mem_cons_of_mem _ q))
  exact key hR h.2
theorem RnI.but {p : Addr} {H H' : Hp} {R : Addr} {as : List Addr} {rds : List (List Int)} (h : RnI H R as rds) (b : But p H H') (hn : (p :: R :: as).Nodup) : RnI H' R as rds := by
  obtain ⟨h1, h2⟩ := List.nodup_cons.mp hn
  refine ⟨by rw [b R fun e => h1 (by rw [e]; simp)]; exact h.1, ?_⟩
  have key : ∀ {bs : List Addr} {xs : List (List Int)}, p ∉ bs → Paired (LiX H) bs xs → Paired (LiX H') bs xs := by
    intro bs xs hb t
    induction t with
    | nil => exact .nil
    | cons r t ih => exact .cons (by show H' _ = _; rw [b _ fun e => hb (by rw [e]; simp)]; exact r) (ih fun q => hb (List.mem_cons_of_mem _ q))
  exact key (fun q => h1 (List.mem_cons_of_mem _ q)) h.2
end Five
end
section
namespace Five
open PySem PySem.Spec PyProof.Rows L2
/-! rows with names -/
def gN (names : List Str) (v : Int) : Str := names.getD v.toNat Str.empty
theorem gN_at {names : List Str} {v : Int} (h : v ∈ vsI names.length) : names[v.toNat]? = some (gN names v) := by
  obtain ⟨h1, h2⟩ := mem_vsI.mp h
  unfold gN
  rw [List.getD_eq_getElem?_getD, List.getElem?_eq_getElem (by omega)]
  rfl
theorem gN_inj {names : List Str} (hn : names.Nodup) {x y : Int} (hx : x ∈ vsI names.length) (hy : y ∈ vsI names.length) (e : gN names x = gN names y) : x = y := by
  have h1 := gN_at hx
  have h2 := gN_at hy
  obtain ⟨a1, a2⟩ := mem_vsI.mp hx
  obtain ⟨b1, b2⟩ := mem_vsI.mp hy
  rw [e, ← h2] at h1
  have := (List.getElem?_inj (by omega) hn).mp h1
  omega
theorem gN_map {names : List Str} : (vsI names.length).map (gN names) = names := by
  refine List.ext_getElem? fun i => ?_
  rw [List.getElem?_map]
  unfold vsI
  rw [List.getElem?_map]
  by_cases h : i < names.length
  · rw [List.getElem?_range h]
    show some (gN names (i : Int)) = _
    rw [← gN_at (mem_vsI.mpr ⟨by omega, by omega⟩)]
    simp
  · rw [List.getElem?_eq_none (by simpa using h), List.getElem?_eq_none (by simpa using h)]
    rfl
/-- rows as the law makes them: in order, each round turned -/
def RowsAre (names : List Str) (rds : List (List Int)) (i : Nat) (rws : List Row) : Prop := rws.length = i ∧ ∀ j, j < i → ∃ far : Nat, rws[j]? = some (gN names (j : Int), ((rdI rds (j : Int)).map (gN names)).drop far ++ ((rdI rds (j : Int)).map (gN names)).take far)
theorem RowsAre.mem {names : List Str} {rds : List (List Int)} {rws : List Row} (h : RowsAre names rds rds.length rws) (hl : names.length = rds.length) {r : Row} (hr : r ∈ rws) : r.1 ∈ names := by
  obtain ⟨j, hj⟩ := List.mem_iff_getElem?.mp hr
  have hjl : j < rds.length := by
    rw [← h.1]
    exact (List.getElem?_eq_some_iff.mp hj).1
  obtain ⟨far, e⟩ := h.2 j hjl
  rw [hj] at e
  rw [Option.some.inj e]
  exact List.mem_of_getElem? (gN_at (mem_vsI.mpr ⟨by omega, by omega⟩))
theorem RowsAre.ok {names : List Str} {rds : List (List Int)} {rws rows : List Row} (h : RowsAre names rds rds.length rws) (hp : rows.Perm rws) (hl : names.length = rds.length) (hn : names.Nodup) (hnm : ∀ x ∈ names, Nm x) (pl : Pl (vsI rds.length) (rdI rds)) (h60 : rds.length ≤ 60) : RowsOk rows := by
  have hv : (vsf rws) = names := by
    rw [← gN_map (names := names), hl]
    refine List.ext_getElem? fun i => ?_
    rw [List.getElem?_map, List.getElem?_map]
    unfold vsI
    rw [List.getElem?_map]
    by_cases hi : i < rds.length
    · obtain ⟨far, e⟩ := h.2 i hi
      rw [e, List.getElem?_range hi]
      rfl
    · rw [List.getElem?_eq_none (by rw [h.1]; omega), List.getElem?_eq_none (by simpa using hi)]
      rfl
  have hvp : (vsf rows).Perm names := by rw [← hv]; exact hp.map _
  have hnd : (vsf rows).Nodup := hvp.nodup_iff.mpr hn
  refine ⟨fun v hv' => hnm v (hvp.mem_iff.mp hv'), ?_, by rw [hp.length_eq, h.1]; exact h60⟩
  refine Pl.named (gN names) pl (fun x hx y hy e => gN_inj hn (by rw [hl]; exact hx) (by rw [hl]; exact hy) e) ?_ fun v hv' => ?_
  · have := gN_map (names := names)
    rw [hl] at this
    rw [this]
    exact hvp
  · obtain ⟨h1, h2⟩ := mem_vsI.mp hv'
    obtain ⟨far, e⟩ := h.2 v.toNat (by omega)
    have ev : ((v.toNat : Nat) : Int) = v := by omega
    rw [ev] at e
    have hm := hp.mem_iff.mpr (List.mem_of_getElem? e)
    have := rdf_of hnd hm
    exact ⟨_, _, (List.take_append_drop far _).symm, this⟩
end Five
namespace Five
open PySem PySem.Spec PyProof.Rows L2
theorem RnI.dr {p : Addr} {H H' : Hp} {R : Addr} {as : List Addr} {rds : List (List Int)} (h : RnI H R as rds) (hn : (p :: R :: as).Nodup) (d : Dr p H H') : RnI H' R as rds := by
  obtain ⟨h1, h2⟩ := List.nodup_cons.mp hn
  refine ⟨d.get (fun e => h1 (by rw [e]; simp)) h.1, ?_⟩
  have key : ∀ {bs : List Addr} {xs : List (List Int)}, p ∉ bs → Paired (LiX H) bs xs → Paired (LiX H') bs xs := by
    intro bs xs hb t
    induction t with
    | nil => exact .nil
    | cons r t ih => exact .cons (d.get (fun e => hb (by rw [e]; simp)) r) (ih fun q => hb (List.mem_cons_of_mem _ q))
  exact key (fun q => h1 (List.mem_cons_of_mem _ q)) h.2
theorem paired_rot {α : Type} {R : Addr → α → Prop} {as : List Addr} {xs : List α} (h : Paired R as xs) (n : Nat) : Paired R (as.drop n ++ as.take n) (xs.drop n ++ xs.take n) := by
  have d : ∀ {as : List Addr} {xs : List α} (n : Nat), Paired R as xs → Paired R (as.drop n) (xs.drop n) ∧ Paired R (as.take n) (xs.take n) := by
    intro as xs n h
    induction h generalizing n with
    | nil => simp; exact .nil
    | cons r t ih =>
      cases n with
      | zero => exact ⟨.cons r t, .nil⟩
      | succ n => exact ⟨(ih n).1, .cons r (ih n).2⟩
  exact paired_app (d n h).1 (d n h).2
theorem paired_rev {α : Type} {R : Addr → α → Prop} {as : List Addr} {xs : List α} (h : Paired R as xs) : Paired R as.reverse xs.reverse := by
  induction h with
  | nil => exact .nil
  | cons r t ih => rw [List.reverse_cons, List.reverse_cons]; exact paired_snoc ih r
theorem rot_perm {α : Type} (l : List α) (n : Nat) : (l.drop n ++ l.take n).Perm l := by
  refine List.perm_append_comm.trans ?_
  rw [List.take_append_drop]
end Five
namespace Five
open PySem PySem.Spec PyProof.Rows L2
/-- a new row of a new list -/
def RowTN (K : PySem.W.Frag) (H0 : Hp) (G : Hp) (t : Addr) (r : Row) : Prop := RowT K (nw H0 G) t r
instance {K : PySem.W.Frag} {H0 : Hp} : Ms (RowTN K H0) := ⟨fun s h => up (R := RowT K) (nw_up s) h⟩
/-- rounds from their least on -/
def dueF (rows : List Row) : List Row := rows.map fun r => (r.1, fl r.2)
theorem vsf_due (rows : List Row) : vsf (dueF rows) = vsf rows := by unfold vsf dueF; rw [List.map_map]; rfl
theorem rdf_due {rows : List Row} {v : Str} (hn : (vsf rows).Nodup) (h : v ∈ vsf rows) : rdf (dueF rows) v = fl (rdf rows v) := by
  obtain ⟨r, hr, rfl⟩ := List.mem_map.mp h
  have h1 : (r.1, fl r.2) ∈ dueF rows := List.mem_map.mpr ⟨r, hr, rfl⟩
  have h2 := rdf_of (rows := dueF rows) (by rw [vsf_due]; exact hn) h1
  rw [rdf_of hn hr]
  exact h2
/-- ties told of a dict of rounds -/
def tiesD (rows : List Row) : List (Str × Str) := (srt (vsf rows)).flatMap fun v => ((srt (rdf rows v)).filter fun o => decide (v.cps.toList < o.cps.toList)).map fun o => (v, o)
theorem ties_due {rows : List Row} (hn : (vsf rows).Nodup) : tiesD (dueF rows) = tiesF (webRows rows) := by
  unfold tiesD tiesF webRows
  rw [vsf_due, List.flatMap_map]
  have : ∀ l : List Str, (∀ v ∈ l, v ∈ vsf rows) → (l.flatMap fun v => ((srt (rdf (dueF rows) v)).filter fun o => decide (v.cps.toList < o.cps.toList)).map fun o => (v, o)) = l.flatMap fun v => ((srt (fl (rdf rows v))).filter fun o => decide (v.cps.toList < o.cps.toList)).map fun o => (v, o) := by
    intro l
    induction l with
    | nil => intro _; rfl
    | cons v r ih =>
      intro h
      rw [List.flatMap_cons, List.flatMap_cons, ih fun x hx => h x (List.mem_cons_of_mem _ hx), rdf_due hn (h v (by simp))]
  exact this _ fun v hv => srt_mem.mp hv
end Five
namespace Five
open PySem PySem.Spec PyProof.Rows L2
theorem dpAll_bls {K : PySem.W.Frag} {G : Hp} : ∀ ss : List Bool, DpAll K G (ss.map V.bl) (ss.map PyData.bool)
  | [] => .nil
  | s :: r => .cons (.bl s) (dpAll_bls r)
theorem bls_dp {K : PySem.W.Frag} {G : Hp} {a : Addr} {l : List Bool} (h : SqL K G a (l.map V.bl)) : Dp K G (.ref a) (tD l) := .lst h (dpAll_bls l)
theorem vsf_web_mem {rows : List Row} {v : Str} : v ∈ vsf (webRows rows) ↔ v ∈ vsf rows := by rw [vsf_web]; exact srt_mem
theorem web_len (rows : List Row) : (webRows rows).length = rows.length := by unfold webRows; rw [List.length_map, srt_length, List.length_map]
theorem RowsOk.webrow {rows : List Row} (h : RowsOk rows) {r : Row} (hr : r ∈ webRows rows) : r.2.length ≤ 60 := by
  unfold webRows at hr
  obtain ⟨v, hv, rfl⟩ := List.mem_map.mp hr
  have hv' : v ∈ vsf rows := srt_mem.mp hv
  rw [(fl_Perm _).length_eq]
  refine Nat.le_trans (nodup_le (h.pl.wf.rn v hv') fun u hu => (h.pl.wf.ties v hv' u hu).1) ?_
  rw [List.length_map]; exact h.len
theorem RowsOk.rlen {rows : List Row} (h : RowsOk rows) {v : Str} (hv : v ∈ vsf rows) : (rdf rows v).length ≤ 60 := by
  refine Nat.le_trans (nodup_le (h.pl.wf.rn v hv) fun u hu => (h.pl.wf.ties v hv u hu).1) ?_
  rw [List.length_map]; exact h.len
end Five
namespace Five
open PySem PySem.Spec PyProof.Rows L2
theorem rows_eta : ∀ {W : List Row}, (vsf W).Nodup → (vsf W).map (fun v => (v, rdf W v)) = W := by
  intro W h
  have key : ∀ l : List Row, (∀ r ∈ l, r ∈ W) → (vsf l).map (fun v => (v, rdf W v)) = l := by
    intro l
    induction l with
    | nil => intro _; rfl
    | cons r l ih =>
      intro hl
      show (r.1, rdf W r.1) :: (vsf l).map (fun v => (v, rdf W v)) = _
      rw [ih fun x hx => hl x (List.mem_cons_of_mem _ hx), rdf_of h (hl r (by simp))]
  exact key W fun _ q => q
theorem NewLL.back {H H1 H' : Hp} {l : Addr} {xs : List (List Str)} (s : Same H H1) (h : NewLL H1 H' l xs) : NewLL H H' l xs := by
  obtain ⟨as, h1, h2⟩ := h
  exact ⟨as, nw_back s _ _ h1, Paired.mapP h2 fun _ _ q => nw_back s _ _ q⟩
/-- faces of the web that is told of rows are those of the rows -/
theorem fd_web {rows : List Row} {cs : List (List (Str × Str))} (wf : Wf (vsf rows) (rdf rows)) (F : FD (vsf rows) (rdf rows) cs) : FD (vsf (webRows rows)) (rdf (webRows rows)) cs := by
  have pd : ∀ l : List Str, (∀ v ∈ l, v ∈ vsf rows) → (darts l (rdf (webRows rows))).Perm (darts l (rdf rows)) := by
    intro l
    induction l with
    | nil => intro _; exact .refl _
    | cons v r ih =>
      intro h
      have e1 : ∀ f : Str → List Str, darts (v :: r) f = (f v).map (fun u => (v, u)) ++ darts r f := fun _ => rfl
      rw [e1, e1, rdf_web (h v (by simp))]
      exact List.Perm.append ((fl_Perm _).map _) (ih fun x hx => h x (List.mem_cons_of_mem _ hx))
  refine ⟨?_, fun c hc => ?_⟩
  · rw [vsf_web]
    refine F.perm.trans ?_
    refine (pd (vsf rows) fun _ h => h).symm.trans ?_
    unfold darts
    exact ((srt_perm _).symm.flatMap_right _)
  · refine cyc_congr (fun s hs => ?_) (F.cyc c hc)
    obtain ⟨h1, h2⟩ := mem_darts.mp (fd_in F hc hs)
    obtain ⟨h3, _, h5⟩ := wf.ties s.1 h1 s.2 h2
    unfold fs
    rw [rdf_web h3]
    obtain ⟨L, M, e1, e2⟩ := fl_perm (rdf rows s.2)
    have hn := wf.rn s.2 h3
    rw [e2, nx_rot (by rw [← e1]; exact hn) (by rw [← e1]; exact h5), ← e1]
theorem wf_web {rows : List Row} (wf : Wf (vsf rows) (rdf rows)) : Wf (vsf (webRows rows)) (rdf (webRows rows)) := by
  refine ⟨by rw [vsf_web]; exact (srt_perm _).nodup_iff.mpr wf.nd, fun v hv => ?_, fun v hv u hu => ?_⟩
  · have hv := vsf_web_mem.mp hv
    rw [rdf_web hv]
    exact (fl_Perm _).nodup_iff.mpr (wf.rn v hv)
  · have hv := vsf_web_mem.mp hv
    rw [rdf_web hv] at hu
    obtain ⟨h1, h2, h3⟩ := wf.ties v hv u (fl_mem.mp hu)
    exact ⟨vsf_web_mem.mpr h1, h2, by rw [rdf_web h1]; exact fl_mem.mpr h3⟩
theorem cd_web {rows : List Row} {ps : List (List Str)} (h : CD (vsf rows) (rdf rows) ps) : CD (vsf (webRows rows)) (rdf (webRows rows)) ps := by
  have hs : ∀ c ∈ ps, ∀ v ∈ c, v ∈ vsf rows := fun c hc v hv => h.perm.mem_iff.mp (List.mem_flatten.mpr ⟨c, hc, hv⟩)
  refine ⟨by rw [vsf_web]; exact h.perm.trans (srt_perm _).symm, fun c hc v hv u hu => ?_, fun c hc => ⟨(h.conn c hc).1, fun S hS => (h.conn c hc).2 S fun v u hv hs' hu => ?_⟩⟩
  · rw [rdf_web (hs c hc v hv)] at hu
    exact h.shut c hc v hv u (fl_mem.mp hu)
  · exact hS v u hv hs' (by rw [rdf_web (hs c hc v hv)]; exact fl_mem.mpr hu)
theorem faces_web {rows : List Row} {cs : List (List (Str × Str))} : facesF (webRows rows) cs = facesF rows cs := by
  unfold facesF
  refine srt_congr (List.Perm.append_right _ ?_)
  unfold lonesF
  rw [vsf_web]
  have e : (srt (vsf rows)).filterMap (fun v => if rdf (webRows rows) v = [] then some [v] else none) = (srt (vsf rows)).filterMap (fun v => if rdf rows v = [] then some [v] else none) := by
    have key : ∀ l : List Str, (∀ v ∈ l, v ∈ vsf rows) → l.filterMap (fun v => if rdf (webRows rows) v = [] then some [v] else none) = l.filterMap (fun v => if rdf rows v = [] then some [v] else none) := by
      intro l
      induction l with
      | nil => intro _; rfl
      | cons v r ih =>
        intro h
        have e0 : (rdf (webRows rows) v = []) ↔ (rdf rows v = []) := by
          rw [rdf_web (h v (by simp))]
          have := (fl_Perm (rdf rows v)).length_eq
          rw [← List.length_eq_zero_iff, ← List.length_eq_zero_iff, this]
        rw [List.filterMap_cons, List.filterMap_cons, ih fun x hx => h x (List.mem_cons_of_mem _ hx)]
        by_cases q : rdf rows v = []
        · rw [if_pos q, if_pos (e0.mpr q)]
        · rw [if_neg q, if_neg fun z => q (e0.mp z)]
    exact key _ fun v hv => srt_mem.mp hv
  rw [e]
  exact (srt_perm _).filterMap _
end Five
namespace Five
open PySem PySem.Spec PyProof.Rows L2
/-- a new tuple of two names -/
def T2N (K : PySem.W.Frag) (H0 : Hp) (G : Hp) (t : Addr) (s : Str × Str) : Prop := T2 K (nw H0 G) t s
instance {K : PySem.W.Frag} {H0 : Hp} : Ms (T2N K H0) := ⟨fun s h => nw_up s _ _ h⟩
theorem T2N.of {K : PySem.W.Frag} {H0 H : Hp} {M : List Addr} {a : Addr} {x y : Str} (h0 : H0 a = none) (h : H a = some (.tup [.str x, .str y])) (hn : a ∉ M) : T2N K H0 (wo H M) a (x, y) := by
  show nw H0 (wo H M) a = _
  rw [nw_of h0, wo_out hn]
  exact h
end Five
namespace Five
open PySem PySem.Spec PyProof.Rows L2
theorem tyL {K : PySem.W.Frag} {H : Hp} {a : Addr} {xs : List V} (h : SqL K H a xs) : TyX K H (.ref a) (.type "list") := by
  rcases h with (h | ⟨o, h⟩) | ⟨o, its, n, h, hc, _⟩
  · exact .base (.lst h)
  · exact .base (.frz h)
  · exact .kList h hc
theorem faces_flen {rows : List Row} {cs : List (List (Str × Str))} (F : FD (vsf rows) (rdf rows) cs) (wf : Wf (vsf rows) (rdf rows)) (hl : rows.length ≤ 60) {f : List Str} (h : f ∈ facesF rows cs) : f.length ≤ 3600 := by
  unfold facesF at h
  rcases List.mem_append.mp (srt_mem.mp h) with q | q
  · unfold lonesF at q
    obtain ⟨v, _, e⟩ := List.mem_filterMap.mp q
    split at e
    · cases e; show 1 ≤ 3600; decide
    · cases e
  · obtain ⟨w, hw, rfl⟩ := List.mem_map.mp q
    rw [List.length_map, (flD_perm w).length_eq]
    have hn : w.Nodup := by
      obtain ⟨rest, hpr⟩ := perm_head hw
      have := (hpr.flatten.nodup_iff).mp (F.perm.nodup_iff.mpr (darts_nodup wf.nd wf.rn))
      rw [List.flatten_cons] at this
      exact (List.nodup_append.mp this).1
    have h1 := nodup_le hn fun s hs => fd_in F hw hs
    have h2 := darts_len wf
    have h5 : (vsf rows).length ≤ 60 := by rw [List.length_map]; exact hl
    have h6 : (vsf rows).length * (vsf rows).length ≤ 60 * 60 := Nat.mul_le_mul h5 h5
    omega
/-- a tuple of a web and of its rounds -/
def WR (K : PySem.W.Frag) (C : Addr) (G : Hp) (t : Addr) (rows : List Row) : Prop := ∃ x d, G t = some (.tup [.ref x, .ref d]) ∧ WebAt K C G x (webRows rows) ∧ RdsAt K G d rows
instance {K : PySem.W.Frag} {C : Addr} : Ms (WR K C) := ⟨fun s ⟨x, d, h1, h2, h3⟩ => ⟨x, d, s _ _ h1, up s h2, up s h3⟩⟩
end Five
end
section
namespace Five
open PySem PySem.Spec PyProof.Rows L2
/-! exceptions -/
abbrev veTail : List Value := [.type "ValueError", .type "Exception", .type "BaseException", .type "object"]
/-- what the written part says of an own exception class -/
structure ExT (K : PySem.W.Frag) (mg : Str → Option Value) (x : Str) (C : Addr) : Prop where
  g : mg x = some (.ref C)
  x : PySem.W.excIn K C veTail "ValueError.__new__" = true
  k : PySem.W.keepIn K (.ref C) = true
  b : PySem.W.subIn K (.ref C) (.type "BaseException") = some true
  t : PySem.W.typeIn K (.ref C) = some (.type "type")
  e : PySem.W.exmOne K (.ref C) (.ref C) = some true
  hg : PySem.W.findIn K (.ref C) "__getattribute__" = some (some (.builtin "BaseException.__getattribute__"))
  hk : PySem.W.findIn K (.ref C) "__getattr__" = some none
  hd : PySem.W.hasDictIn K C = true
  ha : PySem.W.findIn K (.ref C) "__class__" = some (some (.builtin "object.__class__"))
  hn : PySem.W.specialIn K (.builtin "object.__class__") "__get__" = some (some (.builtin "getset_descriptor.__get__"))
  ht : PySem.W.takesIn K (.builtin "object.__class__") = some true
  hm : PySem.W.mroIn K C (.type "object") = some true
theorem ExT.c {K : PySem.W.Frag} {mg : Str → Option Value} {x : Str} {C : Addr} (h : ExT K mg x C) : ExcC K C := ⟨h.hg, h.hk, h.b, h.hd, h.ha, h.hn, h.ht, h.hm⟩
/-- a method that may raise -/
structure MetX (P : Program) (w : World) (K : PySem.W.Frag) (mg : Str → Option Value) (base : Heap) (k : Nat) (C : Addr) (m : Str) (sp : Sp) : Prop where
  ex : ∃ (f : Addr) (fd : FuncData) (ps : List Str), Cls K C ∧ Meth K C m f ∧ FnOk P w K mg base (L2N.CX P w) k f fd ps sp ∧ Binds K fd ps []
structure CalX (P : Program) (w : World) (K : PySem.W.Frag) (mg : Str → Option Value) (base : Heap) (k : Nat) (x : Str) (sp : Sp) : Prop where
  ex : ∃ (f : Addr) (fd : FuncData) (ps : List Str), FnOk P w K mg base (L2N.CX P w) k f fd ps sp ∧ mg x = some (.ref f) ∧ PySem.W.keepIn K (.ref f) = true ∧ Binds K fd ps []
section
variable {P : Program} {w : World} {K : PySem.W.Frag} {mg : Str → Option Value} {base : Heap}
abbrev BodyX (P : Program) (w : World) (K : PySem.W.Frag) (mg : Str → Option Value) (base : Heap) (k : Nat) (qual : Str) (st : Stmt) (N : List Str) (sp : Sp) : Prop :=
  ∀ (f : Addr) (cdv : Value) (A : Around) (outer : List Env) (s : Shared) (H : Hp) (vs : List V) (Q : VK) (E : XK), Room k (A.deeper (envOfC qual (defScope st) s.heap.objs.size f cdv)) → sp vs H Q E →
      ∃ t, PSs (cxOf (L2N.CX P w) P w K mg base N qual (defScope st) f cdv A outer s H E) (defBody st) t ∧ t { nx := fun _ H' => Q .non H', rt := Q } (start N vs) H
theorem okN {x qual : Str} {st : Stmt} {f : Addr} {fd : FuncData} {N ps : List Str} {k : Nat} {sp : Sp} (F : Fun K x qual st f fd) (S : FnScope N ps (defScope st)) (len : ∀ vs H Q E, sp vs H Q E → vs.length = ps.length)
    (hb : ∀ (cdv : Value) (A : Around) (outer : List Env) (s : Shared) (H : Hp) (vs : List V) (Q : VK) (E : XK), Room k (A.deeper (envOfC qual (defScope st) s.heap.objs.size f cdv)) → sp vs H Q E →
      ∃ t, PSs (cxOf (L2N.CX P w) P w K mg base N qual (defScope st) f cdv A outer s H E) (defBody st) t ∧ t { nx := fun _ H' => Q .non H', rt := Q } (start N vs) H) : FnOk P w K mg base (L2N.CX P w) (k + 1) f fd ps sp := by
  obtain ⟨oc, od, kV, doc, pm, an, cdv, ct, osl, rfl, lk, hcd⟩ := F.ex
  exact fn_of lk hcd S len fun A outer s H vs Q E hr hsp => hb cdv A outer s H vs Q E hr hsp
theorem takesN {X : Cx} : L2N.Takes X (fun _ _ _ _ => False) := fun _ _ x => by
  obtain ⟨_, _, _, _, _, _, _, _, _, _, _, _, _, _, _, _, q⟩ := x
  exact q.elim
theorem metX_of {C : Addr} {m qual : Str} {st : Stmt} {N ps : List Str} {k : Nat} {sp : Sp} (c : Cls K C) (D : MetAt K C m qual st ps) (S : FnScope N ps (defScope st)) (len : ∀ vs H Q E, sp vs H Q E → vs.length = ps.length)
    (hb : BodyX P w K mg base k qual st N sp) : MetX P w K mg base (k + 1) C m sp := by
  obtain ⟨f, fd, F, hm, b⟩ := D.ex
  exact ⟨f, fd, ps, c, hm, okN F S len (fun cdv A outer s H vs Q E => hb f cdv A outer s H vs Q E), b⟩
theorem calX_of {x : Str} {st : Stmt} {N ps : List Str} {k : Nat} {sp : Sp} (D : DefAt K mg x st ps) (S : FnScope N ps (defScope st)) (len : ∀ vs H Q E, sp vs H Q E → vs.length = ps.length)
    (hb : BodyX P w K mg base k x st N sp) : CalX P w K mg base (k + 1) x sp := by
  obtain ⟨f, fd, F, hm, b⟩ := D.ex
  exact ⟨f, fd, ps, okN F S len (fun cdv A outer s H vs Q E => hb f cdv A outer s H vs Q E), hm, F.kp, b⟩
end
section
variable {X : Cx} {k j : Nat} {C : Addr} {x m : Str} {sp : Sp} {p pos apos : Pos} {e o : Expr} {es : List Expr} {ta : TE} {t : TA} {E : L2.St → XK}
def tMethX (C : Addr) (m : Str) (sp : Sp) (E : L2.St → XK) (ta : TE) (t : TA) : TE := fun σ H Q => ta σ H fun x H1 => ∃ a dx fs, x = .ref a ∧ H1 a = some (.ins C dx fs) ∧ fs.lookup m = none ∧ t σ H1 fun vs H2 => sp (x :: vs) H2 Q (E σ)
/-- o.m(e, ..) that may raise, within a try -/
theorem pe_mtX {pl : Sem Bool} (c : MetX X.prog X.w X.K X.mg X.base k C m sp) (hr : Room j X.A) (hk : k ≤ j) (hx : ∀ σ, PassesAt (L2N.CX X.prog X.w) X σ (E σ)) (he : PE X o ta) (ha : PA X (e :: es) t)
    (hst : starEach (e :: es) X.env = (false, eval e X.env) :: starEach es X.env := by rfl) (hpl : (backTo pos (starEach es X.env)).any (·.1) = false := by rfl)
    (ht : eval (.Call (.Attribute o m apos) (e :: es) [] pos) X.env = (do
      let ov ← eval o X.env
      standAt apos.atName
      let (f, first) ← holding [ov] (getMethod ov m pl)
      callWith pos f first (backTo pos (starEach (e :: es) X.env)) (backToKw pos (keywordEach [] X.env))) := by rfl) :
    PE X (.Call (.Attribute o m apos) (e :: es) [] pos) (tMethX C m sp E ta t) := by
  obtain ⟨f, fd, ps, c, hm, F, b⟩ := c.ex
  refine ⟨fun pins s σ H Q I h => ?_⟩
  refine PySem.W.methodCall_KW (pl := pl) (thn (he.run pins s σ H _ I h) fun u s1 ⟨x, H1, I1, rx, a, dx, fs, ex, ea, l, q⟩ => ?_) ht
  subst ex
  obtain rfl : u = Value.ref a := rx
  refine getmeth_ok I1 ea c hm l ?_
  refine PySem.W.callWith_K (first := [.ref a]) (h₀ := X.base) I.ok.mod.kin hm.kp (thn (ha.run pos pins s1 σ H1 _ I1 q) fun us s2 ⟨vs, H2, I2, r, q2⟩ => ⟨I2.kIn, ?_⟩) hst hpl
  exact run_fnS (us := .ref a :: us) (vs := .ref a :: vs) F (hr.mono hk) b (hx σ) I2 (.cons rfl r) q2
/-- f(e, ..) that may raise, within a try -/
theorem pe_cX (c : CalX X.prog X.w X.K X.mg X.base k x sp) (hr : Room j X.A) (hk : k ≤ j) (hg : Gl X x) (hx : ∀ σ, PassesAt (L2N.CX X.prog X.w) X σ (E σ)) (ha : PA X (e :: es) t)
    (hdb : (x == ("__debug__" : Str)) = false := by decide) (he : starEach (e :: es) X.env = (false, eval e X.env) :: starEach es X.env := by rfl) (hpl : (backTo pos (starEach es X.env)).any (·.1) = false := by rfl) :
    PE X (.Call (.Name x p) (e :: es) [] pos) (tCallS sp E t) := by
  obtain ⟨f, fd, ps, F, hm, kp, b⟩ := c.ex
  exact pe_callS F (hr.mono hk) hg hm kp b hx ha hdb he hpl
end
/-- isinstance(e, c), e the exception in hand, of the class cls -/
def rIsC (K : PySem.W.Frag) (a : Addr) (cls : Value) (d : Option Addr) : List V → Hp → VK → Prop := fun xs H Q => ∃ (D : Addr) (c : V) (cv : Value) (b : Bool), cls = .ref D ∧ d = none ∧ ExcC K D ∧ xs = [.ref a, c] ∧ (∀ u, RelV c u → u = cv) ∧ PySem.W.kitOne K (.ref D) cv = some b ∧ Q (.bl b) H
theorem call_isC {X : Cx} {K : PySem.W.Frag} {a : Addr} {cls : Value} {d : Option Addr} {oe : Obj} {pn : List (Addr × Obj)} (hz : Zc cls d oe) (hf : ∃ vs, oe.data = .fields vs) (hK : X.K = K := by rfl) : CallR (X.suite a ((a, oe) :: pn)) (.builtin "isinstance") (rIsC K a cls d) := by
  subst hK
  intro pins s σ H xs us Q I r h
  obtain ⟨D, c, cv, b, rfl, rfl, hC, rfl, hcv, e, q⟩ := h
  exact call_isE hC hz hf pins s σ H _ us Q I r ⟨c, cv, b, rfl, hcv, e, q⟩
theorem rel_ref {a : Addr} : ∀ u, RelV (.ref a) u → u = .ref a := fun u r => r
theorem rel_ty {n : String} : ∀ u, RelV (.ty n) u → u = .type n := fun u r => r
end Five
namespace Five
open PySem PySem.Spec PyProof.Rows L2
theorem kit_own {K : PySem.W.Frag} {D C : Addr} {v : Bool} (hs : PySem.W.subIn K (.ref D) (.ref C) = some v) (hself : PySem.W.subIn K (.ref D) (.ref D) = some true) (hd : PySem.W.hasDictIn K C = true) (ht : PySem.W.typeIn K (.ref C) = some (.type "type")) : PySem.W.kitOne K (.ref D) (.ref C) = some v := by
  unfold PySem.W.kitOne
  by_cases e : D = C
  · subst e
    rw [hs] at hself
    cases hself
    rw [if_pos (by simp)]
  · have ne : (Value.ref D == Value.ref C) = false := by
      rw [Bool.eq_false_iff]
      intro q
      exact e (Value.ref.inj (beq_iff_eq.mp q))
    rw [if_neg (by rw [ne]; exact Bool.false_ne_true)]
    obtain ⟨cd, hc, _⟩ := PySem.W.any_some hd
    unfold PySem.W.kitCls
    show (if ((PySem.W.clsIn K C).isSome && PySem.W.typeIn K (.ref C) == some (.type "type")) = true then PySem.W.subIn K (.ref D) (.ref C) else none) = _
    rw [if_pos (by rw [hc, ht]; rfl)]
    exact hs
theorem kit_bt {K : PySem.W.Frag} {D : Addr} {n : String} {v : Bool} (hs : PySem.W.subIn K (.ref D) (.type n) = some v) (hm : PySem.W.kitMeta n = true) : PySem.W.kitOne K (.ref D) (.type n) = some v := by
  unfold PySem.W.kitOne
  have ne : (Value.ref D == Value.type n) = false := by
    rw [Bool.eq_false_iff]
    intro q
    exact nomatch (beq_iff_eq.mp q)
  rw [if_neg (by rw [ne]; exact Bool.false_ne_true)]
  show (if PySem.W.kitMeta n = true then PySem.W.subIn K (.ref D) (.type n) else none) = _
  rw [if_pos hm]
  exact hs
end Five
end
section
namespace Five
open PySem PySem.Spec PyProof.Rows L2
section
variable {X : Cx}
/-! d.update(e), e a dict -/
def rUpdD : V → List V → Hp → VK → Prop := fun x xs H Q => ∃ (d o : Addr) (acc kvs : List (Key × V)), x = .ref d ∧ xs = [.ref o] ∧ d ≠ o ∧ H d = some (.dK acc) ∧ H o = some (.dK kvs) ∧ acc.length + kvs.length ≤ sizeLine ∧ Q .non (upd H d (.dK (mergeK acc kvs)))
theorem mt_updateD : MtR X "dict.update" rUpdD := by
  intro pins s σ H x xs v us Q I rx rxs h
  obtain ⟨d, o, acc, kvs, rfl, rfl, ne, hd, ho, hz, q⟩ := h
  cases rx
  obtain ⟨u, eu, rx⟩ := vals1 rxs
  subst eu
  cases rx
  obtain ⟨z, hsys, vs, rel, dd⟩ := dk_of I.hok hd
  obtain ⟨z2, hsys2, vs2, rel2, dd2⟩ := dk_of I.hok ho
  refine call_meetsIn PySem.F.slot_dict_update dd.typeIs PySem.F.entry_dict_update (PySem.F.args_dict_update_2 _ _) (meets_dict_update (mixKind X.prog X.w) d o ne hsys2) ⟨vs, vs2, dd, dd2, by rw [← rel.length, ← rel2.length]; exact hz, fun h' dd' _ hs => ?_⟩
  have he : ∃ q, h'.get? d = some q := let ⟨q, _, _, hq, _⟩ := dd'; ⟨q, hq⟩
  exact ⟨.non, _, d_write (t' := s.toks) I (by rw [hd]; exact True.intro) hs he (dk_new (Nat.le_trans (length_mergeK kvs acc) hz) hsys (KV.merge rel2 rel) dd'), rfl, q⟩
end
end Five
end
section
namespace Five
open PySem PySem.Spec PyProof.Rows L2
open PySem.W (Datum DatumOrd minD dataLt AlikeAll min_list_data)
/-- a pair of a number and a text -/
def TI2 (K : PySem.W.Frag) (G : Hp) (t : Addr) (x : Int × Str) : Prop := G t = some (.tup [.int x.1, .str x.2])
instance {K : PySem.W.Frag} : Ms (TI2 K) := ⟨fun s h => s _ _ h⟩
theorem TI2.dp {K : PySem.W.Frag} {G : Hp} {a : Addr} {x : Int × Str} (h : TI2 K G a x) : Dp K G (.ref a) (tD x) := .tup (SqT.of h) (.cons (.int _) (.cons (.str _) .nil))
theorem TI2.of {K : PySem.W.Frag} {H : Hp} {l : Addr} {M : List Addr} {x : Int} {y : Str} (h : H l = some (.tup [.int x, .str y])) (h2 : l ∉ M) : TI2 K (wo H M) l (x, y) := by show wo H M l = _; rw [wo_out h2]; exact h
theorem reads_int_inj {h : Heap} {v : Value} {n n' : Int} {as as' : List Addr} (r : Reads h v (.int n) as) (r' : Reads h v (.int n') as') : n = n' := by
  cases r; cases r'; rfl
theorem reads_str_inj {h : Heap} {v : Value} {n n' : Str} {as as' : List Addr} (r : Reads h v (.str n) as) (r' : Reads h v (.str n') as') : n = n' := by
  cases r; cases r'; rfl
theorem reads_is {h : Heap} {b : Addr} {x y : Int × Str} {as as' : List Addr} (r : Reads h (.ref b) (tD x) as) (r' : Reads h (.ref b) (tD y) as') : x = y := by
  have r : Reads h (.ref b) (.tuple [.int x.1, .str x.2]) as := r
  have r' : Reads h (.ref b) (.tuple [.int y.1, .str y.2]) as' := r'
  cases r with
  | tuple h1 h2 h3 h4 =>
    cases r' with
    | tuple k1 k2 k3 k4 =>
      rw [h1] at k1; cases k1
      rw [h3] at k3; cases k3
      generalize (Array.toList _) = l at h4 k4
      cases h4 with
      | cons a1 a2 =>
        cases k4 with
        | cons b1 b2 =>
          cases a2 with
          | cons a3 a4 =>
            cases b2 with
            | cons b3 b4 =>
              have e1 : x.1 = y.1 := reads_int_inj a1 b1
              have e2 : x.2 = y.2 := reads_str_inj a3 b3
              exact Prod.ext e1 e2
theorem reads_keep {h h' : Heap} (k : ∀ b o, h.get? b = some o → h'.get? b = some o) {b : Addr} {x : Int × Str} {as : List Addr} (r : Reads h (.ref b) (tD x) as) : ∃ as', Reads h' (.ref b) (tD x) as' := by
  have r : Reads h (.ref b) (.tuple [.int x.1, .str x.2]) as := r
  cases r with
  | tuple h1 h2 h3 h4 =>
    refine ⟨_, Reads.tuple (k _ _ h1) h2 h3 (as := [] ++ ([] ++ [])) ?_⟩
    generalize (Array.toList _) = l at h4
    cases h4 with
    | cons a1 a2 =>
      cases a2 with
      | cons a3 a4 =>
        cases a4
        cases a1
        cases a3
        exact .cons (.int _ _) (.cons (.str _ _) .nil)
theorem minD_is {α : Type} [DecidableEq α] [DatumOrd α] : ∀ (xs : List α) (x : α), ∃ m, minD (tD x) (xs.map Datum.toD) = tD m ∧ m ∈ x :: xs ∧ ∀ y ∈ x :: xs, leD m y = true
  | [], x => ⟨x, rfl, List.mem_cons_self, fun y hy => by
    have e : y = x := by simpa using hy
    rw [e]
    unfold leD
    rw [lt_irr]; rfl⟩
  | a :: r, x => by
    show ∃ m, (r.map Datum.toD).foldl (fun a y => if dataLt y a then y else a) (if dataLt (tD a) (tD x) then tD a else tD x) = tD m ∧ _
    cases c : DatumOrd.lt a x with
    | true =>
      have e : dataLt (tD a) (tD x) = true := by rw [show dataLt (tD a) (tD x) = DatumOrd.lt a x from DatumOrd.lt_eq a x]; exact c
      rw [if_pos e]
      obtain ⟨m, h1, h2, h3⟩ := minD_is r a
      refine ⟨m, h1, List.mem_cons_of_mem _ h2, fun y hy => ?_⟩
      rcases List.mem_cons.mp hy with e | hy
      · rw [e]
        refine leD_trans m a x (h3 a List.mem_cons_self) ?_
        unfold leD
        rw [lt_asym c]; rfl
      · exact h3 y hy
    | false =>
      have e : ¬ dataLt (tD a) (tD x) = true := by rw [show dataLt (tD a) (tD x) = DatumOrd.lt a x from DatumOrd.lt_eq a x, c]; simp
      rw [if_neg e]
      obtain ⟨m, h1, h2, h3⟩ := minD_is r x
      refine ⟨m, h1, ?_, fun y hy => ?_⟩
      · rcases List.mem_cons.mp h2 with e | hm
        · rw [e]; exact List.mem_cons_self
        · exact List.mem_cons_of_mem _ (List.mem_cons_of_mem _ hm)
      · rcases List.mem_cons.mp hy with e | hy
        · rw [e]; exact h3 x List.mem_cons_self
        · rcases List.mem_cons.mp hy with e | hy
          · rw [e]
            refine leD_trans m x a (h3 x List.mem_cons_self) ?_
            unfold leD
            rw [c]; rfl
          · exact h3 y (List.mem_cons_of_mem _ hy)
/-- min(xs) of a list of such pairs -/
def rMinIS (K : PySem.W.Frag) : List V → Hp → VK → Prop := fun vs H Q => ∃ (a : Addr) (as : List Addr) (xs : List (Int × Str)), vs = [V.ref a] ∧ SqL K H a (as.map V.ref) ∧ Paired (TI2 K H) as xs ∧ xs ≠ [] ∧ ∀ b m, m ∈ xs → (∀ x ∈ xs, leD m x = true) → TI2 K H b m → Q (.ref b) H
theorem cr_minIS {X : Cx} {K : PySem.W.Frag} (hc : X.calm = true) (hu : X.A.units + 64 < cLine) (hK : X.K = K := by rfl) : CallR X (.builtin "min") (rMinIS K) := by
  subst hK
  intro pins s σ H vs us Q I r h
  obtain ⟨a, as, xs, rfl, hs, hp, hne, q⟩ := h
  obtain ⟨its, rv, hl, _⟩ := I.list hs
  rw [Vals.ref1 r]
  obtain ⟨x, xr, rfl⟩ : ∃ x xr, xs = x :: xr := by
    cases xs with
    | nil => exact absurd rfl hne
    | cons x xr => exact ⟨x, xr, rfl⟩
  obtain ⟨bs, hr⟩ := Dp.readsAll I ((x :: xr).map Datum.toD) _ its (dpAll_refs (R := TI2 X.K) (fun _ _ h => h.dp) hp) rv
  refine min_list_data (x := tD x) (xs := xr.map Datum.toD) (I.ok.hd hc) hl.isList (by simpa using hr) ⟨fun y hy z hz => ?_, fun y hy => ?_⟩ ?_ fun i v h' tk cs hv rd hk => ?_
  · have e : (tD x :: xr.map Datum.toD) = (x :: xr).map Datum.toD := rfl
    rw [e] at hy hz
    obtain ⟨p, _, rfl⟩ := List.mem_map.mp hy
    obtain ⟨p2, _, rfl⟩ := List.mem_map.mp hz
    exact DatumOrd.alike p p2
  · have e : (tD x :: xr.map Datum.toD) = (x :: xr).map Datum.toD := rfl
    rw [e] at hy
    obtain ⟨p, _, rfl⟩ := List.mem_map.mp hy
    exact DatumOrd.notNone p
  · have hd : ∀ l : List (Int × Str), PyData.depthAll (l.map Datum.toD) ≤ 60 := fun l => by
      induction l with
      | nil => simp [PyData.depthAll]
      | cons y l ih =>
        rw [List.map_cons, PyData.depthAll]
        have : (Datum.toD y).depth ≤ 60 := Nat.le_trans (Datum.depth_le y) (by decide)
        exact Nat.max_le.mpr ⟨this, ih⟩
    have := hd (x :: xr)
    rw [List.map_cons] at this
    have e : PyData.depthAll (tD x :: xr.map Datum.toD) ≤ 60 := this
    omega
  obtain ⟨m, e1, e2, e3⟩ := minD_is xr x
  rw [e1] at rd
  have hv' : its[i]? = some v := by simpa using hv
  obtain ⟨y, hy⟩ : ∃ y, (as.map V.ref)[i]? = some y := by
    have hi : i < its.length := (List.getElem?_eq_some_iff.mp hv').1
    rw [← rv.length] at hi
    exact ⟨_, List.getElem?_eq_getElem hi⟩
  obtain ⟨u, hu1, hu2⟩ := Vals.get rv hy
  rw [hv'] at hu1
  cases hu1
  obtain ⟨b, hb, rfl⟩ := item_ref hy
  obtain rfl : v = Value.ref b := hu2
  obtain ⟨m', hm', hT⟩ := paired_get hp i b hb
  obtain ⟨cs', rd0⟩ := Dp.reads I _ _ _ (TI2.dp hT) (show RelV (.ref b) (.ref b) from rfl)
  obtain ⟨cs2, rd2⟩ := reads_keep hk rd0
  have em := reads_is rd rd2
  subst em
  exact ⟨.ref b, H, I.kept hk, rfl, q b m (List.mem_of_getElem? hm') e3 hT⟩
/-- a dict against an empty one -/
def rEqE : R2 := fun x y H Q => ∃ a b ks, x = .ref a ∧ y = .ref b ∧ H a = some (.dK ks) ∧ H b = some (.dK []) ∧ Q (.bl (decide (ks = []))) H
theorem op_eq_dictE {X : Cx} (hu : X.A.units < cLine) : OpR X (compareOp .Eq) rEqE := by
  intro pins s σ H x y v u Q I rx ry h
  obtain ⟨a, b, ks, rfl, rfl, ea, eb, q⟩ := h
  obtain rfl : v = Value.ref a := rx
  obtain rfl : u = Value.ref b := ry
  obtain ⟨_, ya, va, ra, da⟩ := (show ObjOk X.prog X.w H s.heap a (.dK ks) from I.hok a _ ea)
  obtain ⟨_, yb, vb, rb, db⟩ := (show ObjOk X.prog X.w H s.heap b (.dK []) from I.hok b _ eb)
  have hk : ks.length = va.length := ra.length
  have hb0 : vb.length = 0 := by rw [← rb.length]; rfl
  refine PySem.W.keq_eq (knd := mixKind X.prog X.w) (r := true) ya yb da db hu (fun hl => hits_all rb ra fun p hp => ?_) (fin_bl I q ?_)
  · have : ks = [] := List.length_eq_zero_iff.mp (by omega)
    rw [this] at hp
    cases hp
  · cases ks with
    | nil =>
      have : va.length = vb.length := by rw [hb0, ← hk]; rfl
      simp [this]
    | cons p r =>
      have : ¬ va.length = vb.length := by rw [hb0, ← hk]; simp
      simp [this]
theorem pe_fldK {X : Cx} {K : PySem.W.Frag} {o : Expr} {f : Str} {ta : TE} {pos : Pos} (ha : PE X o ta) (hb : attributeBase o f X.env (eval o X.env) = eval o X.env) (hK : X.K = K := by rfl) : PE X (.Attribute o f pos) (tFld K ta f) := by subst hK; exact pe_fld ha hb
end Five
end
section
namespace Five
open PySem PySem.Spec PyProof.Rows L2
theorem erase_mapS : ∀ (l : List Str) (j : Nat), (l.map V.str).eraseIdx j = (l.eraseIdx j).map V.str
  | [], j => by simp
  | a :: r, 0 => by simp
  | a :: r, j + 1 => by
    have ih := erase_mapS r j
    simp [ih]
theorem strs_get : ∀ {us : List Value} {xs : List Str}, StrsAre us xs → ∀ (i : Nat) (x : Str), xs[i]? = some x → ∃ t, us[i]? = some (.str x t)
  | _, _, .nil, i, x, h => by simp at h
  | _, _, .cons n t hh, 0, x, h => ⟨t, by simpa using h⟩
  | _, _, .cons n t hh, i + 1, x, h => by simpa using strs_get hh i x (by simpa using h)
section
variable {X : Cx}
/-- remove of a text from a list of texts, each once -/
def rRemS : V → List V → Hp → VK → Prop := fun x xs H Q => ∃ (l : Addr) (ss : List Str) (k : Str), x = .ref l ∧ xs = [.str k] ∧ H l = some (.lst (ss.map V.str)) ∧ ss.Nodup ∧ k ∈ ss ∧ Q .non (upd H l (.lst ((ss.filter fun v => decide (v ≠ k)).map V.str)))
theorem mt_removeS : MtM X "list.remove" rRemS := by
  intro pins s σ H x xs v us Q I rx rxs h
  obtain ⟨l, ss, k, rfl, rfl, hH, hnd, hk, q⟩ := h
  obtain ⟨A, B, e1, hA, hB, e2⟩ := filter_split hnd hk
  cases rx
  obtain ⟨u, rfl, ru⟩ := rxs.one
  obtain ⟨t, rfl⟩ := ru
  obtain ⟨z, its, n, r, hl, e⟩ := I.lstM hH
  have hi := strs_of_vals r
  rw [List.length_map] at hl z
  have hjn : A.length < ss.length := by rw [e1]; simp
  have hj : ss[A.length]? = some k := by rw [e1]; simp
  have hjl : A.length < its.toArray.size := by rw [List.size_toArray]; omega
  refine call_meets PySem.F.slot_list_remove ⟨_, e, rfl⟩ PySem.F.entry_list_remove (PySem.F.args_list_remove_2 _ _)
    (MeetsSeq.list_remove l its.toArray n (.str k t) (isStrOf k) (fun y hy => eq_isStrOf k t hi y (by simpa using hy)) A.length hjl ?_ ?_ (by rw [List.size_toArray]; omega)) ⟨e, ?_⟩
  · obtain ⟨tj, hjt⟩ := strs_get hi A.length k hj
    obtain ⟨h1, h2⟩ := List.getElem?_eq_some_iff.mp hjt
    have e1 : its.toArray[A.length] = .str k tj := by simpa using h2
    rw [e1]
    show (k == k) = true
    simp
  · intro m hm hmj
    have hmn : m < ss.length := by omega
    obtain ⟨tm, hmt⟩ := strs_get hi m _ (List.getElem?_eq_getElem hmn)
    obtain ⟨h1, h2⟩ := List.getElem?_eq_some_iff.mp hmt
    have e3 : its.toArray[m] = .str ss[m] tm := by simpa using h2
    rw [e3]
    refine beq_eq_false_iff_ne.mpr fun e4 => hA ?_
    have : ss[m]? = A[m]? := by rw [e1, List.getElem?_append_left hmj]
    rw [← e4]
    exact List.mem_of_getElem? (i := m) (by rw [← this, List.getElem?_eq_getElem hmn])
  · have rr := r.eraseIdx A.length
    have e5 : (ss.map V.str).eraseIdx A.length = (ss.filter fun v => decide (v ≠ k)).map V.str := by
      rw [erase_mapS, e2, e1, List.eraseIdx_append_of_length_le (Nat.le_refl _), Nat.sub_self]
      rfl
    rw [e5] at rr
    refine ⟨.non, _, I.lset (its' := its.eraseIdx A.length) (t' := s.toks) hH e ?_ rr ?_, rfl, q⟩
    · show its.toArray.eraseIdxIfInBounds A.length = (its.eraseIdx A.length).toArray
      rw [List.eraseIdxIfInBounds_toArray]
    · rw [List.length_map]
      have := List.length_filter_le (fun v => decide (v ≠ k)) ss
      omega
end
end Five
end
section
namespace Five
open PySem PySem.Spec PyProof.Rows L2
/-- a comprehension within another one -/
theorem blkIn {N : List Str} {sc0 scope0 scope : Scope} {own : List (Str × Nat)} {cl : List (Str × Addr)} {C : Addr} {env : Env} (e : env.scope = sc0)
    (h : blkC N (relabel scope0 { scope := sc0, locals := 0, globals := 0, cells := [] }) scope own = true) : BlkOk N (compEnvC scope0 cl C env).scope scope own := by
  subst e
  exact blkOk_by h
theorem pi_listK {X : Cx} {K : PySem.W.Frag} {tg l : Expr} {tl : TE} (hl : PE X l tl) (hK : X.K = K := by rfl) : PI X tg l (iList K tl) := by subst hK; exact pi_list hl
end Five
end
section
namespace Five
open PySem PySem.Spec PyProof.Rows L2 RT
section
variable {prog : Program} {w : World} {A : Around} {E : Value → Shared → Prop} {s : Shared}
theorem extend_rev {R : Result → Shared → Prop} {it l : Addr} {items : Array Value} (hh : A.handled = none) (hit : s.heap.IsRevIter it l ((items.size : Int) - 1)) (hl : s.heap.IsList l items) (hne : l ≠ it) (S : Addr) (res : Value) (c₀ : Nat) (hS : s.heap.get? S = some { cls := .type "list", data := .seq #[] c₀ }) (hSi : S ≠ it) (hSl : S ≠ l)
    (hR : ∀ h' tk acc' c', (∀ b o, b ≠ S → b ≠ it → s.heap.get? b = some o → h'.get? b = some o) → h'.get? S = some { cls := .type "list", dict := none, data := .seq acc' c', slots := #[] } →
      ItemsOf (fun i v => items[items.size - 1 - i]? = some v) acc' items.size → R (.ok (.ret res)) { s with heap := h', toks := tk }) (hn : items.size ≤ sizeLine) :
    wpAny (model prog w) A.in1 (Builtin.List.listExtendWith (.ref S) (.ref it) res)
      (fun fin s' => match fin with | .done f => R (.ok f) s' | .again c' => c'.quiet = true ∧ codeAny (model prog w) A c' R s') (fun e s' => R (.error e) s') s := by
  have W := (Walks.listRev (prog := prog) (w := w) (A := A.in1) hh it l hne items).toS
  have hSf : S ∉ [it, l] := by simp only [List.mem_cons, List.not_mem_nil, or_false, not_or]; exact ⟨hSi, hSl⟩
  have hT : s.TypeIs (.ref it) "list_reverseiterator" := Heap.IsRevIter.typeIs hit
  have h1 : Builtin.List.listSameRef (.ref S) (.ref it) = false := by simp [Builtin.List.listSameRef, hSi]
  unfold Builtin.List.listExtendWith
  refine wpAny_bind (wpAny_typeOf hT ?_)
  rw [if_neg (by rw [h1]; decide)]
  refine wpAny_bind (wpAny_pyIter_revIter hit ?_)
  refine wpAny_bind (wpAny_holding ?_)
  unfold Builtin.List.listLengthHint
  refine wpAny_bind (wpAny_specialOf hT nolen_lri ?_)
  show wpAny _ A.in1 (specialOf (Value.ref it) (Str.ofString "__length_hint__") >>= _) _ _ _
  refine wpAny_bind (wpAny_specialOf hT hint_lri ?_)
  generalize hid : ("list_reverseiterator.__length_hint__" : String) = id0
  wp_delta
  rw [show splitId id0 = some ("list_reverseiterator", "__length_hint__") from by subst hid; decide +kernel]
  subst hid
  refine wpAny_bind (wpAny_isInstance (b := true) hT (by rw [isSubtype_type]; kernel_rfl) ?_)
  refine wpAny_pure ?_
  rw [if_neg (by decide)]
  have e0 : ((items.size : Nat) : Int) - 1 - ((0 : Nat) : Int) = (items.size : Int) - 1 := by omega
  refine wpAny_pure ⟨plainId_quiet F.plain_extend_loop _, codeAny_extend_loopS W hn _ hSf _ items.size 0 _ _ _ rfl (Nat.zero_le _) ⟨Nat.zero_le _, by rw [e0]; exact hit, hl⟩ hS (ItemsOf.nil _) fun s' acc' c' hm hS' hacc => ?_⟩
  rw [Moved.eq_with hm]
  refine hR s'.heap s'.toks acc' c' (fun b o hb hb2 e => hm.heap b o (fun hmem => ?_) e) hS' hacc
  rcases List.mem_cons.mp hmem with e' | hmem
  · exact hb e'
  · exact hb2 (List.mem_singleton.mp hmem)
theorem list_init_rev {R : Result → Shared → Prop} {it l : Addr} {items : Array Value} (hh : A.handled = none) (hit : s.heap.IsRevIter it l ((items.size : Int) - 1)) (hl : s.heap.IsList l items) (hne : l ≠ it) (S : Addr) (hS : s.heap.get? S = some { cls := .type "list", data := .seq #[] }) (hSi : S ≠ it) (hSl : S ≠ l)
    (hR : ∀ h' tk acc' c', (∀ b o, b ≠ S → b ≠ it → s.heap.get? b = some o → h'.get? b = some o) → h'.get? S = some { cls := .type "list", dict := none, data := .seq acc' c', slots := #[] } →
      ItemsOf (fun i v => items[items.size - 1 - i]? = some v) acc' items.size → R (.ok (.ret .none)) { s with heap := h', toks := tk }) (hn : items.size ≤ sizeLine) :
    wpAny (model prog w) A.in1 (Builtin.«list.__init__» ⟨[.ref S, .ref it], []⟩)
      (fun fin s' => match fin with | .done f => R (.ok f) s' | .again c' => c'.quiet = true ∧ codeAny (model prog w) A c' R s') (fun e s' => R (.error e) s') s := by
  show wpAny _ _ (do let old ← Builtin.List.listItems (.ref S); Builtin.List.listUpdate (.ref S) (fun _ => #[]); letGo old.toList.reverse; Builtin.List.listExtendWith (.ref S) (.ref it) .none) _ _ s
  refine wpAny_bind ?_
  unfold Builtin.List.listItems
  refine wpAny_bind (wpAny_seqItems hS rfl (wpAny_pure ?_))
  show wpAny _ _ (updateSeq S (fun _ => #[]) >>= fun _ => letGo (#[] : Array Value).toList.reverse >>= fun _ => Builtin.List.listExtendWith (.ref S) (.ref it) .none) _ _ s
  refine wpAny_bind (wpAny_updateSeq hS rfl ?_)
  have hS₂ := Heap.get?_update_self (Obj.mapSeq (fun _ => (#[] : Array Value))) hS rfl
  have oth : ∀ b o, b ≠ S → s.heap.get? b = some o → (s.heap.update S (Obj.mapSeq (fun _ => (#[] : Array Value)))).get? b = some o :=
    fun b o hb e => (Heap.get?_update_other _ _ (Ne.symm hb)).trans e
  have hl2 : (s.heap.update S (Obj.mapSeq (fun _ => (#[] : Array Value)))).IsList l items := let ⟨o, ho, r⟩ := hl; ⟨o, oth _ _ hSl.symm ho, r⟩
  refine wpAny_bind (wpAny_letGo ?_)
  refine extend_rev (hn := hn) hh (hit.at fun o e => oth _ _ hSi.symm e) hl2 hne S .none _ hS₂ hSi hSl fun h' tk acc' c' hk hS' hacc => ?_
  exact hR h' tk acc' c' (fun b o hb hb2 e => hk b o hb hb2 (oth b o hb e)) hS' hacc
theorem call_list_rev {Q : Value → Shared → Prop} {it l : Addr} {items : Array Value} (hh : A.handled = none) (hit : s.heap.IsRevIter it l ((items.size : Int) - 1)) (hl : s.heap.IsList l items) (hne : l ≠ it)
    (hQ : ∀ h' tk acc' c', (∀ b o, b ≠ it → s.heap.get? b = some o → h'.get? b = some o) → h'.get? s.heap.objs.size = some { cls := .type "list", dict := none, data := .seq acc' c', slots := #[] } →
      ItemsOf (fun i v => items[items.size - 1 - i]? = some v) acc' items.size → Q (.ref s.heap.objs.size) { s with heap := h', toks := tk }) (hn : items.size ≤ sizeLine) :
    wpAny (model prog w) A (call (.type "list") [.ref it]) Q E s := by
  obtain ⟨oi, hoi, _⟩ := id hit
  obtain ⟨ol, hol, _⟩ := id hl
  have hSi : s.heap.objs.size ≠ it := Nat.ne_of_gt (Heap.lt_size hoi)
  have hSl : s.heap.objs.size ≠ l := Nat.ne_of_gt (Heap.lt_size hol)
  refine callType_codes (Q₁ := fun obj s₁ => obj = .ref s.heap.objs.size ∧ s₁ = { s with heap := s.heap.push { cls := .type "list", data := .seq #[] } }) F.called_list (F.typeCall_list_1 _) F.entry_list_init
    (code_list_new _ ⟨rfl, rfl⟩) fun obj s₁ h₁ => ?_
  obtain ⟨rfl, rfl⟩ := h₁
  have hS : (s.heap.push { cls := .type "list", data := .seq #[] }).get? s.heap.objs.size = some { cls := .type "list", data := .seq #[] } := Heap.get?_push_size _ rfl
  refine ⟨⟨_, hS, rfl⟩, F.args_list_init_2 _ _, list_init_rev (A := A.in1) (hn := hn) hh (hit.at fun o e => Heap.get?_push_of_some _ e) (hl.push _) hne _ hS hSi hSl fun h' tk acc' c' hk hS' hacc => ?_⟩
  exact ⟨rfl, hQ h' tk acc' c' (fun b o hb e => hk b o (Nat.ne_of_lt (Heap.lt_size e)) hb (Heap.get?_push_of_some _ e)) hS' hacc⟩
end
section
variable {X : Cx}
/-- list(reversed(a list)): a new list -/
def tLstRev (K : PySem.W.Frag) (te : TE) : TE := fun σ H Q => te σ H fun v H1 => ∃ (a : Addr) (xs : List V), v = .ref a ∧ SqL K H1 a xs ∧ ∀ q, H1 q = none → Q (.ref q) (upd H1 q (.lst xs.reverse))
theorem pe_lstRev {K : PySem.W.Frag} {e : Expr} {te : TE} {p p2 pos pos2 : Pos} (hc : X.calm = true) (hg : Gl X "list") (hm : X.mg "list" = none) (hg2 : Gl X "reversed") (hm2 : X.mg "reversed" = none) (he : PE X e te) (hK : X.K = K := by rfl)
    (hs : starEach [e] X.env = (false, eval e X.env) :: starEach [] X.env := by rfl)
    (hs2 : starEach [.Call (.Name "reversed" p2) [e] [] pos2] X.env = (false, eval (.Call (.Name "reversed" p2) [e] [] pos2) X.env) :: starEach [] X.env := by rfl) :
    PE X (.Call (.Name "list" p) [.Call (.Name "reversed" p2) [e] [] pos2] [] pos) (tLstRev K te) := by
  subst hK
  refine ⟨fun pins s σ H Q I h => ?_⟩
  refine Call_ (ld_blt I hg hm boot_list (PyProof.Rows.callWith_type1 (args_cons (Call_ (ld_blt I hg2 hm2 PyProof.Rows.boot_reversed (PyProof.Rows.callWith_type1 (args_cons (thn (he.run pins s σ H _ I h) fun u s1 ⟨v, H1, I1, r1, q1⟩ => args_nil ?_) hs) hs rfl))) hs2) hs2 rfl))
  obtain ⟨a, xs, ev, hq, q⟩ := q1
  subst ev
  obtain rfl : u = Value.ref a := r1
  obtain ⟨its, rv, p', hz⟩ := I1.list hq
  refine call_reversed_list p'.isList (args_nil ?_)
  have hl := p'.isList
  obtain ⟨ol, hol, _⟩ := id hl
  have hne : a ≠ s1.heap.objs.size := Nat.ne_of_lt (Heap.lt_size hol)
  have hn : its.toArray.size ≤ sizeLine := by rw [List.size_toArray, ← rv.length]; exact hz
  refine call_list_rev (s := { s1 with heap := s1.heap.push (revObj a ((its.toArray.size : Int) - 1)) }) (I1.ok.hd hc) ⟨_, Heap.get?_push_size _ rfl, rfl, rfl⟩ (hl.push _) hne (fun h' tk acc c' hk hS hi => ?_) hn
  have hsz : s1.heap.objs.size ≤ (s1.heap.push (revObj a ((its.toArray.size : Int) - 1))).objs.size := by
    show s1.heap.objs.size ≤ (s1.heap.objs.push _).size
    rw [Array.size_push]
    omega
  have hS2 : h'.get? (s1.heap.push (revObj a ((its.toArray.size : Int) - 1))).objs.size = some { cls := .type "list", dict := none, data := .seq acc.toList.toArray c', slots := #[] } := by
    rw [Array.toArray_toList]
    exact hS
  refine ⟨.ref (s1.heap.push (revObj a ((its.toArray.size : Int) - 1))).objs.size, _, I1.laid (t' := tk) (fun b o e => hk b o (Nat.ne_of_lt (Heap.lt_size e)) (Heap.get?_push_of_some _ e)) hsz (show ObjOk X.prog X.w _ h' _ (.lst xs.reverse) from ⟨by rw [List.length_reverse]; exact hz, acc.toList, c', vals_rev rv hi, hS2⟩), rfl, q _ (I1.hok.fresh hsz)⟩
end
end Five
end
section
namespace Five
open PySem PySem.Spec PyProof.Rows L2
theorem mul_one (c : Nat) (n : Int) (h : 0 ≤ n) : PySem.Txt.mul ⟨#[c]⟩ n = txt (List.replicate n.toNat c) := by
  unfold PySem.Txt.mul
  by_cases h1 : n < 1
  · rw [if_pos h1, show n = 0 by omega]
    rfl
  rw [if_neg h1]
  by_cases h2 : n = 1
  · subst h2
    rfl
  have e : (n == 1 || (⟨#[c]⟩ : Str).length == 0) = false := by
    have : (n == 1) = false := by simpa using h2
    rw [this]
    rfl
  rw [if_neg (by rw [e]; simp)]
  unfold txt
  congr 1
  generalize n.toNat = k
  have f : ∀ (m : Nat) (acc : Array Nat), List.foldl (· ++ ·) acc (List.replicate m #[c]) = acc ++ (List.replicate m c).toArray := by
    intro m
    induction m with
    | zero => intro acc; simp
    | succ m ih =>
      intro acc
      rw [List.replicate_succ, List.foldl_cons, ih, List.replicate_succ]
      apply Array.ext'
      simp
  rw [f]
  simp
/-- a sign, some times -/
theorem op_rep_str {X : Cx} : OpR X (binaryOp .Mult) (fun x y H Q => ∃ (c : Nat) (n : Int), x = .str ⟨#[c]⟩ ∧ y = .int n ∧ 0 ≤ n ∧ n ≤ 1000 ∧ Q (.str (txt (List.replicate n.toNat c))) H) := by
  intro pins s σ H x y v u Q I rx ry h
  obtain ⟨c, n, rfl, rfl, h0, h1, q⟩ := h
  obtain ⟨t, rfl⟩ := rx
  obtain ⟨t', rfl⟩ := ry
  have el : (⟨#[c]⟩ : Str).length = 1 := rfl
  refine SB.mul ⟨?_, fun h2 _ => ?_, fun h2 _ => ?_⟩ fun t'' k => ?_
  · rw [Bool.or_eq_false_iff]
    exact ⟨decide_eq_false (by omega), decide_eq_false (by omega)⟩
  · rw [el]
    have : (1 : Int) ≤ (2 ^ 63 - 1) / n := by
      rw [Int.le_ediv_iff_mul_le (by omega)]
      omega
    omega
  · rw [el, Nat.one_mul]
    exact decide_eq_false (Nat.not_lt.mpr (Nat.le_trans (show n.toNat ≤ 1000 by omega) (by decide)))
  · rw [mul_one c n h0]
    exact ⟨.str _, H, I.tok _, ⟨_, rfl⟩, q⟩
end Five
end
section
namespace Five
open PySem PySem.Spec PyProof.Rows L2
open PySem.W (Datum DatumOrd)
/-! dicts from names to plain things -/
def dk {α : Type} (c : α → V) (kv : List (Str × α)) : List (Key × V) := kv.map fun x => (Sum.inr x.1, c x.2)
section
variable {α : Type} {c : α → V} {kv : List (Str × α)} {v : Str} {p : α}
abbrev ks (kv : List (Str × α)) : List Str := kv.map (·.1)
theorem dk_keys : (dk c kv).map (·.1) = (ks kv).map Sum.inr := by unfold dk ks; rw [List.map_map, List.map_map]; rfl
theorem dk_length : (dk c kv).length = kv.length := by unfold dk; rw [List.length_map]
theorem ks_length : (ks kv).length = kv.length := by unfold ks; rw [List.length_map]
theorem valV_dk_none (h : v ∉ ks kv) : valV (dk c kv) (Sum.inr v) = none := valV_out (by
  rw [dk_keys]
  intro q
  obtain ⟨x, h1, h2⟩ := List.mem_map.mp q
  cases h2
  exact h h1)
theorem valV_dk_some : ∀ {kv : List (Str × α)}, (ks kv).Nodup → (v, p) ∈ kv → valV (dk c kv) (Sum.inr v) = some (c p)
  | [], _, h => nomatch h
  | (a, q) :: r, hn, h => by
    show valV ((Sum.inr a, c q) :: dk c r) (Sum.inr v) = _
    obtain ⟨h1, h2⟩ := List.nodup_cons.mp hn
    rcases List.mem_cons.mp h with e | e
    · cases e
      rw [valV_pos rfl]
    · have ne : a ≠ v := fun q => h1 (by rw [q]; exact List.mem_map.mpr ⟨_, e, rfl⟩)
      rw [valV_neg (fun q => ne (Sum.inr.inj q)), valV_dk_some h2 e]
theorem putK_dk (h : v ∉ ks kv) : putK (dk c kv) (Sum.inr v) (c p) = dk c (kv ++ [(v, p)]) := by
  rw [putK_new _ (valV_dk_none h)]
  unfold dk
  rw [List.map_append]
  rfl
theorem mergeK_dk {kv tl : List (Str × α)} (h : (ks (kv ++ tl)).Nodup) : mergeK (dk c kv) (dk c tl) = dk c (kv ++ tl) := by
  rw [mergeK_app]
  · unfold dk; rw [List.map_append]
  · have : dk c kv ++ dk c tl = dk c (kv ++ tl) := by unfold dk; rw [List.map_append]
    rw [this, dk_keys]
    exact nodup_inr h
theorem dget_dk_some {H : Hp} {d : Addr} (h : H d = some (.dK (dk c kv))) (hn : (ks kv).Nodup) (hm : (v, p) ∈ kv) : DGet H d (.str v) (some (c p)) := by
  rw [← valV_dk_some hn hm]
  exact DGet.k (k := Sum.inr v) h
theorem dget_dk_none {H : Hp} {d : Addr} (h : H d = some (.dK (dk c kv))) (hm : v ∉ ks kv) : DGet H d (.str v) none := by
  rw [← valV_dk_none (c := c) hm]
  exact DGet.k (k := Sum.inr v) h
theorem dget_dk {H : Hp} {d : Addr} (v : Str) (h : H d = some (.dK (dk c kv))) (hn : (ks kv).Nodup) : ∃ o, DGet H d (.str v) o ∧ (o.isSome = true ↔ v ∈ ks kv) := by
  by_cases hm : v ∈ ks kv
  · obtain ⟨⟨a, p⟩, h1, h2⟩ := List.mem_map.mp hm
    cases h2
    exact ⟨_, dget_dk_some h hn h1, by simp [hm]⟩
  · exact ⟨_, dget_dk_none h hm, by simp [hm]⟩
end
def oV : Option Str → V
  | none => .non
  | some s => .str s
/-! layers -/
def Bl (rd : Str → List Str) (r : Str) : Nat → Str → Prop
  | 0, v => v = r
  | n + 1, v => Bl rd r n v ∨ ∃ u, Bl rd r n u ∧ v ∈ rd u
def Ly (rd : Str → List Str) (r : Str) (n : Nat) (v : Str) : Prop := Bl rd r n v ∧ ∀ m, m < n → ¬ Bl rd r m v
def Par (rd : Str → List Str) (r v : Str) : Option Str → Prop
  | none => v = r
  | some u => ∃ n, Ly rd r n u ∧ v ∈ rd u ∧ Ly rd r (n + 1) v ∧ ∀ u', Ly rd r n u' → v ∈ rd u' → leD u u' = true
section
variable {rd : Str → List Str} {r v u : Str} {n m : Nat}
theorem Bl.le (h : Bl rd r n v) (hm : n ≤ m) : Bl rd r m v := by
  induction hm with
  | refl => exact h
  | step _ ih => exact .inl ih
theorem bl_least (h : Bl rd r n v) : ∃ m, m ≤ n ∧ Ly rd r m v := by
  induction n with
  | zero => exact ⟨0, Nat.le_refl _, h, fun m hm => absurd hm (Nat.not_lt_zero _)⟩
  | succ n ih =>
    by_cases hb : Bl rd r n v
    · obtain ⟨m, h1, h2⟩ := ih hb
      exact ⟨m, Nat.le_succ_of_le h1, h2⟩
    · exact ⟨n + 1, Nat.le_refl _, h, fun m hm q => hb (q.le (Nat.le_of_lt_succ hm))⟩
theorem Ly.uniq (h : Ly rd r n v) (h2 : Ly rd r m v) : n = m := by
  rcases Nat.lt_trichotomy n m with q | q | q
  · exact absurd h.1 (h2.2 n q)
  · exact q
  · exact absurd h2.1 (h.2 m q)
theorem ly_zero : Ly rd r 0 v ↔ v = r := ⟨fun h => h.1, fun h => ⟨h, fun m hm => absurd hm (Nat.not_lt_zero _)⟩⟩
theorem ly_succ : Ly rd r (n + 1) v ↔ ¬ Bl rd r n v ∧ ∃ u, Ly rd r n u ∧ v ∈ rd u := by
  constructor
  · intro h
    have hn := h.2 n (Nat.lt_succ_self n)
    refine ⟨hn, ?_⟩
    rcases h.1 with q | ⟨u, h1, h2⟩
    · exact absurd q hn
    · exact ⟨u, ⟨h1, fun m hm q => hn (Bl.le (n := m + 1) (.inr ⟨u, q, h2⟩) hm)⟩, h2⟩
  · rintro ⟨hn, u, h1, h2⟩
    exact ⟨.inr ⟨u, h1.1, h2⟩, fun m hm q => hn (q.le (Nat.le_of_lt_succ hm))⟩
theorem ly_down : ∀ {m : Nat} {v : Str}, Ly rd r m v → n ≤ m → ∃ u, Ly rd r n u
  | 0, v, h, hn => by
    have : n = 0 := by omega
    subst this
    exact ⟨v, h⟩
  | m + 1, v, h, hn => by
    by_cases e : n = m + 1
    · subst e; exact ⟨v, h⟩
    · obtain ⟨_, u, h1, _⟩ := ly_succ.mp h
      exact ly_down h1 (by omega)
theorem bl_end (h : ∀ u, ¬ Ly rd r n u) (hb : Bl rd r m v) : Bl rd r n v := by
  obtain ⟨k, h1, h2⟩ := bl_least hb
  by_cases e : n ≤ k
  · obtain ⟨u, hu⟩ := ly_down h2 e
    exact absurd hu (h u)
  · exact h2.1.le (by omega)
theorem bl_sub {vs : List Str} (hr : r ∈ vs) (hc : ∀ v ∈ vs, ∀ u ∈ rd v, u ∈ vs) : ∀ {n : Nat} {v : Str}, Bl rd r n v → v ∈ vs
  | 0, v, h => by rw [show v = r from h]; exact hr
  | n + 1, v, h => by
    rcases h with q | ⟨u, h1, h2⟩
    · exact bl_sub hr hc q
    · exact hc u (bl_sub hr hc h1) v h2
theorem Par.uniq {p q : Option Str} (h1 : Par rd r v p) (h2 : Par rd r v q) : p = q := by
  cases p with
  | none =>
    cases q with
    | none => rfl
    | some b =>
      obtain ⟨n, _, _, a, _⟩ := h2
      have := Ly.uniq a (ly_zero.mpr h1)
      omega
  | some a =>
    obtain ⟨n, a1, a2, a3, a4⟩ := h1
    cases q with
    | none =>
      have := Ly.uniq a3 (ly_zero.mpr h2)
      omega
    | some b =>
      obtain ⟨m, b1, b2, b3, b4⟩ := h2
      have e := Ly.uniq a3 b3
      have e : n = m := by omega
      subst e
      rw [leD_anti (a4 b b1 b2) (b4 a a1 a2)]
theorem bl_congr {rd' : Str → List Str} (h : ∀ v u, u ∈ rd v ↔ u ∈ rd' v) : ∀ {n : Nat} {v : Str}, Bl rd r n v ↔ Bl rd' r n v
  | 0, v => Iff.rfl
  | n + 1, v => by
    show (_ ∨ _) ↔ (_ ∨ _)
    rw [bl_congr h (n := n) (v := v)]
    constructor
    · rintro (q | ⟨u, h1, h2⟩)
      · exact .inl q
      · exact .inr ⟨u, (bl_congr h).mp h1, (h u v).mp h2⟩
    · rintro (q | ⟨u, h1, h2⟩)
      · exact .inl q
      · exact .inr ⟨u, (bl_congr h).mpr h1, (h u v).mpr h2⟩
end
/-- what a layer tells -/
structure LbP (rd : Str → List Str) (fk ly : List Str) (i j : Nat) (tl : List (Str × Str)) : Prop where
  nd : (ks tl).Nodup
  dom : ∀ o, o ∈ ks tl ↔ o ∉ fk ∧ ((∃ p ∈ ly.take i, o ∈ rd p) ∨ ∃ p, ly[i]? = some p ∧ o ∈ (rd p).take j)
  first : ∀ x ∈ tl, ∃ i, ly[i]? = some x.2 ∧ x.1 ∈ rd x.2 ∧ ∀ q ∈ ly.take i, x.1 ∉ rd q
/-- the tree within n steps -/
structure TreI (rd : Str → List Str) (r : Str) (n : Nat) (kv : List (Str × Option Str)) : Prop where
  nd : (ks kv).Nodup
  dom : ∀ v, v ∈ ks kv ↔ Bl rd r n v
  par : ∀ x ∈ kv, Par rd r x.1 x.2
structure Tre (rd : Str → List Str) (r : Str) (kv : List (Str × Option Str)) : Prop where
  nd : (ks kv).Nodup
  dom : ∀ v, v ∈ ks kv ↔ ∃ n, Bl rd r n v
  par : ∀ x ∈ kv, Par rd r x.1 x.2
section
variable {rd : Str → List Str} {r : Str} {n : Nat} {kv : List (Str × Option Str)} {ly fk : List Str} {tl : List (Str × Str)} {i j : Nat}
theorem LbP.nil : LbP rd fk ly 0 0 [] := ⟨by simp, fun o => ⟨fun h => (nomatch h), fun ⟨_, h⟩ => by
  rcases h with ⟨p, h1, _⟩ | ⟨p, _, h2⟩
  · simp at h1
  · simp at h2⟩, fun x h => (nomatch h)⟩
theorem LbP.skip {p o : Str} (h : LbP rd fk ly i j tl) (hp : ly[i]? = some p) (ho : (rd p)[j]? = some o) (hk : o ∈ fk ∨ o ∈ ks tl) : LbP rd fk ly i (j + 1) tl := by
  refine ⟨h.nd, fun z => ⟨fun hz => ?_, fun ⟨hz, q⟩ => ?_⟩, h.first⟩
  · obtain ⟨h1, h2⟩ := (h.dom z).mp hz
    refine ⟨h1, h2.imp id fun ⟨q, q1, q2⟩ => ⟨q, q1, ?_⟩⟩
    rw [List.take_add_one]
    exact List.mem_append_left _ q2
  · rcases q with q | ⟨q, h1, h2⟩
    · exact (h.dom z).mpr ⟨hz, .inl q⟩
    · rw [hp] at h1
      cases h1
      rw [List.take_add_one, ho] at h2
      rcases List.mem_append.mp h2 with h2 | h2
      · exact (h.dom z).mpr ⟨hz, .inr ⟨_, hp, h2⟩⟩
      · have e : z = o := by simpa using h2
        subst e
        exact hk.resolve_left hz
theorem LbP.add {p o : Str} (h : LbP rd fk ly i j tl) (hp : ly[i]? = some p) (ho : (rd p)[j]? = some o) (h1 : o ∉ fk) (h2 : o ∉ ks tl) : LbP rd fk ly i (j + 1) (tl ++ [(o, p)]) := by
  have ek : ks (tl ++ [(o, p)]) = ks tl ++ [o] := by unfold ks; rw [List.map_append]; rfl
  refine ⟨?_, fun z => ?_, fun x hx => ?_⟩
  · rw [ek]
    refine List.nodup_append.mpr ⟨h.nd, by simp, fun a ha b hb e => h2 ?_⟩
    rw [← List.mem_singleton.mp hb, ← e]; exact ha
  · rw [ek]
    constructor
    · intro hz
      rcases List.mem_append.mp hz with q | q
      · obtain ⟨h1, h2⟩ := (h.dom z).mp q
        refine ⟨h1, h2.imp id fun ⟨q, q1, q2⟩ => ⟨q, q1, ?_⟩⟩
        rw [List.take_add_one]
        exact List.mem_append_left _ q2
      · rw [List.mem_singleton.mp q]
        exact ⟨h1, .inr ⟨p, hp, by rw [List.take_add_one, ho]; exact List.mem_append_right _ (by simp)⟩⟩
    · rintro ⟨hz, q⟩
      rcases q with q | ⟨q, a1, a2⟩
      · exact List.mem_append_left _ ((h.dom z).mpr ⟨hz, .inl q⟩)
      · rw [hp] at a1
        cases a1
        rw [List.take_add_one, ho] at a2
        rcases List.mem_append.mp a2 with a2 | a2
        · exact List.mem_append_left _ ((h.dom z).mpr ⟨hz, .inr ⟨_, hp, a2⟩⟩)
        · exact List.mem_append_right _ (by simpa using a2)
  · rcases List.mem_append.mp hx with q | q
    · exact h.first x q
    · rw [List.mem_singleton.mp q]
      exact ⟨i, hp, List.mem_of_getElem? ho, fun q hq hr => h2 ((h.dom o).mpr ⟨h1, .inl ⟨q, hq, hr⟩⟩)⟩
theorem LbP.next {p : Str} (h : LbP rd fk ly i (rd p).length tl) (hp : ly[i]? = some p) : LbP rd fk ly (i + 1) 0 tl := by
  refine ⟨h.nd, fun z => ?_, h.first⟩
  rw [h.dom]
  refine and_congr_right fun hz => ?_
  constructor
  · rintro (⟨q, q1, q2⟩ | ⟨q, q1, q2⟩)
    · exact .inl ⟨q, by rw [List.take_add_one]; exact List.mem_append_left _ q1, q2⟩
    · exact .inl ⟨q, by rw [List.take_add_one, q1]; exact List.mem_append_right _ (by simp), List.mem_of_mem_take q2⟩
  · rintro (⟨q, q1, q2⟩ | ⟨q, _, q2⟩)
    · rw [List.take_add_one, hp] at q1
      rcases List.mem_append.mp q1 with q1 | q1
      · exact .inl ⟨q, q1, q2⟩
      · have e : q = p := by simpa using q1
        subst e
        exact .inr ⟨q, hp, by rw [List.take_length]; exact q2⟩
    · simp at q2
theorem LbP.fin (h : LbP rd fk ly ly.length 0 tl) (o : Str) : o ∈ ks tl ↔ o ∉ fk ∧ ∃ p ∈ ly, o ∈ rd p := by
  rw [h.dom]
  refine and_congr_right fun hz => ?_
  rw [List.take_length]
  constructor
  · rintro (q | ⟨q, _, q2⟩)
    · exact q
    · simp at q2
  · exact .inl
theorem TreI.start : TreI rd r 0 [(r, none)] := ⟨by simp, fun v => by simp [Bl], fun x hx => by rw [List.mem_singleton.mp hx]; exact rfl⟩
theorem TreI.step (h : TreI rd r n kv) (hs : ly.Pairwise (fun a b => leD a b = true)) (hl : ∀ v, v ∈ ly ↔ Ly rd r n v) (b : LbP rd (ks kv) ly ly.length 0 tl) :
    TreI rd r (n + 1) (kv ++ tl.map fun x => (x.1, some x.2)) ∧ ∀ v, v ∈ ks tl ↔ Ly rd r (n + 1) v := by
  have ek : ks (kv ++ tl.map fun x => (x.1, some x.2)) = ks kv ++ ks tl := by unfold ks; rw [List.map_append, List.map_map]; rfl
  have hk : ∀ v, v ∈ ks tl ↔ Ly rd r (n + 1) v := fun v => by
    rw [b.fin, ly_succ, h.dom]
    refine and_congr_right fun _ => ⟨fun ⟨p, h1, h2⟩ => ⟨p, (hl p).mp h1, h2⟩, fun ⟨p, h1, h2⟩ => ⟨p, (hl p).mpr h1, h2⟩⟩
  refine ⟨⟨?_, fun v => ?_, fun x hx => ?_⟩, hk⟩
  · rw [ek]
    exact List.nodup_append.mpr ⟨h.nd, b.nd, fun a ha c hc e => ((b.fin c).mp hc).1 (by rw [← e]; exact ha)⟩
  · rw [ek, List.mem_append, h.dom, hk]
    constructor
    · rintro (q | q)
      · exact .inl q
      · exact q.1
    · intro q
      by_cases e : Bl rd r n v
      · exact .inl e
      · exact .inr ⟨q, fun m hm z => e (z.le (Nat.le_of_lt_succ hm))⟩
  · rcases List.mem_append.mp hx with q | q
    · exact h.par x q
    · obtain ⟨⟨o, p⟩, h1, rfl⟩ := List.mem_map.mp q
      obtain ⟨i, a1, a2, a3⟩ := b.first _ h1
      have hp : p ∈ ly := List.mem_of_getElem? a1
      refine ⟨n, (hl p).mp hp, a2, (hk o).mp (List.mem_map.mpr ⟨_, h1, rfl⟩), fun u hu ho => ?_⟩
      obtain ⟨k, hk1, hk2⟩ := List.getElem_of_mem ((hl u).mpr hu)
      have hk' : ly[k]? = some u := by rw [List.getElem?_eq_getElem hk1, hk2]
      rcases Nat.lt_trichotomy k i with q | q | q
      · refine absurd ho (a3 u ?_)
        rw [List.mem_take_iff_getElem]
        exact ⟨k, by omega, hk2⟩
      · subst q
        rw [a1] at hk'
        cases hk'
        unfold leD; rw [lt_irr]; rfl
      · obtain ⟨hi1, hi2⟩ := List.getElem?_eq_some_iff.mp a1
        have := List.pairwise_iff_getElem.mp hs i k hi1 hk1 q
        rw [hi2, hk2] at this
        exact this
theorem TreI.tre (h : TreI rd r n kv) (he : ∀ u, ¬ Ly rd r n u) : Tre rd r kv := ⟨h.nd, fun v => (h.dom v).trans ⟨fun q => ⟨n, q⟩, fun ⟨m, q⟩ => bl_end he q⟩, h.par⟩
theorem Tre.val {kv kv' : List (Str × Option Str)} (h : Tre rd r kv) (h' : Tre rd r kv') : kv.length = kv'.length ∧ ∀ p ∈ dk oV kv, valV (dk oV kv') p.1 = some p.2 ∧ flatB p.2 = true := by
  have hm : ∀ v, v ∈ ks kv ↔ v ∈ ks kv' := fun v => (h.dom v).trans (h'.dom v).symm
  refine ⟨?_, fun p hp => ?_⟩
  · have := (perm_of_mem h.nd h'.nd hm).length_eq
    rwa [ks_length, ks_length] at this
  · obtain ⟨⟨v, q⟩, h1, rfl⟩ := List.mem_map.mp hp
    obtain ⟨⟨v', q'⟩, h2, e⟩ := List.mem_map.mp ((hm v).mp (List.mem_map.mpr ⟨_, h1, rfl⟩))
    have e : v' = v := e
    subst e
    have e2 : q = q' := Par.uniq (h.par _ h1) (h'.par _ h2)
    subst e2
    refine ⟨valV_dk_some h'.nd h2, ?_⟩
    cases q <;> rfl
end
theorem rdf_out {rows : List Row} {v : Str} (h : v ∉ vsf rows) : rdf rows v = [] := by
  induction rows with
  | nil => rfl
  | cons a t ih =>
    rw [rdf_cons, if_neg (fun q => h (by rw [← q]; exact List.mem_cons_self))]
    exact ih fun q => h (List.mem_cons_of_mem _ q)
theorem ly_congr {rd rd' : Str → List Str} {r : Str} (h : ∀ v u, u ∈ rd v ↔ u ∈ rd' v) {n : Nat} {v : Str} : Ly rd r n v ↔ Ly rd' r n v := by
  unfold Ly
  rw [bl_congr h]
  exact and_congr_right fun _ => ⟨fun q m hm z => q m hm ((bl_congr h).mpr z), fun q m hm z => q m hm ((bl_congr h).mp z)⟩
theorem Par.congr {rd rd' : Str → List Str} {r v : Str} {p : Option Str} (h : ∀ v u, u ∈ rd v ↔ u ∈ rd' v) (q : Par rd r v p) : Par rd' r v p := by
  cases p with
  | none => exact q
  | some u =>
    obtain ⟨n, h1, h2, h3, h4⟩ := q
    exact ⟨n, (ly_congr h).mp h1, (h _ _).mp h2, (ly_congr h).mp h3, fun u' a b => h4 u' ((ly_congr h).mpr a) ((h _ _).mpr b)⟩
theorem Tre.congr {rd rd' : Str → List Str} {r : Str} {kv : List (Str × Option Str)} (h : ∀ v u, u ∈ rd v ↔ u ∈ rd' v) (t : Tre rd r kv) : Tre rd' r kv :=
  ⟨t.nd, fun v => (t.dom v).trans ⟨fun ⟨n, q⟩ => ⟨n, (bl_congr h).mp q⟩, fun ⟨n, q⟩ => ⟨n, (bl_congr h).mpr q⟩⟩, fun x hx => (t.par x hx).congr h⟩
theorem rdf_web_mem {rows : List Row} {v u : Str} : u ∈ rdf (webRows rows) v ↔ u ∈ rdf rows v := by
  by_cases h : v ∈ vsf rows
  · rw [rdf_web h]; exact fl_mem
  · rw [rdf_out h, rdf_out (fun q => h (vsf_web_mem.mp q))]
theorem RowT.rowP {K : PySem.W.Frag} {G : Hp} {t : Addr} {r : Row} (h : RowT K G t r) : RowP K G t r := let ⟨b, h1, h2⟩ := h; ⟨b, SqT.of h1, SqL.of h2⟩
end Five
end
section
namespace Five
open PySem PySem.Spec PyProof.Rows L2
theorem find_at {α : Type} {p : α → Bool} : ∀ {l : List α} {i : Nat} {v : α}, (∀ x ∈ l.take i, p x = false) → l[i]? = some v → p v = true → l.find? p = some v
  | [], i, v, _, h, _ => by simp at h
  | a :: l, 0, v, _, h, hp => by
    simp at h
    subst h
    rw [List.find?_cons, hp]
  | a :: l, i + 1, v, h1, h, hp => by
    rw [List.find?_cons, h1 a (by simp)]
    exact find_at (i := i) (fun x hx => h1 x (by rw [List.take_succ_cons]; exact List.mem_cons_of_mem _ hx)) (by simpa using h) hp
theorem find_no {α : Type} {p : α → Bool} {l : List α} (h : ∀ x ∈ l, p x = false) : l.find? p = none := by
  rw [List.find?_eq_none]
  intro x hx
  rw [h x hx]; simp
/-- the hue of a name -/
def hval (hv : List (Str × Int)) (v : Str) : Int := ((hv.find? fun x => decide (x.1 = v)).map (·.2)).getD 0
theorem hval_of : ∀ {hv : List (Str × Int)} {v : Str} {p : Int}, (ks hv).Nodup → (v, p) ∈ hv → hval hv v = p
  | [], _, _, _, h => nomatch h
  | (a, q) :: r, v, p, hn, h => by
    obtain ⟨h1, h2⟩ := List.nodup_cons.mp hn
    rcases List.mem_cons.mp h with e | e
    · cases e
      unfold hval
      simp
    · have ne : a ≠ v := fun q => h1 (by rw [q]; exact List.mem_map.mpr ⟨_, e, rfl⟩)
      have := hval_of h2 e
      unfold hval at this ⊢
      rw [List.find?_cons]
      simp [ne]
      simpa using this
theorem dget_hv {H : Hp} {d : Addr} {hv : List (Str × Int)} {v : Str} (h : H d = some (.dK (dk V.int hv))) (hn : (ks hv).Nodup) (hm : v ∈ ks hv) : DGet H d (.str v) (some (.int (hval hv v))) := by
  obtain ⟨⟨a, p⟩, h1, h2⟩ := List.mem_map.mp hm
  cases h2
  rw [hval_of hn h1]
  exact dget_dk_some h hn h1
/-! hues put, hues gone -/
def putH (hv : List (Str × Int)) (v : Str) (n : Int) : List (Str × Int) := if v ∈ ks hv then hv.map fun x => if x.1 = v then (x.1, n) else x else hv ++ [(v, n)]
def dropH (hv : List (Str × Int)) (v : Str) : List (Str × Int) := hv.filter fun x => decide (x.1 ≠ v)
theorem putH_dk (hv : List (Str × Int)) (v : Str) (n : Int) : putK (dk V.int hv) (Sum.inr v) (.int n) = dk V.int (putH hv v n) := by
  unfold putK putH
  have hany : ((dk V.int hv).any fun kv => decide (kv.1 = Sum.inr v)) = true ↔ v ∈ ks hv := by
    unfold dk
    rw [List.any_map, List.any_eq_true, List.mem_map]
    constructor
    · rintro ⟨x, h1, h2⟩
      exact ⟨x, h1, Sum.inr.inj (of_decide_eq_true h2)⟩
    · rintro ⟨x, h1, h2⟩
      exact ⟨x, h1, decide_eq_true (show (Sum.inr x.1 : Key) = Sum.inr v by rw [h2])⟩
  by_cases h : v ∈ ks hv
  · rw [if_pos (hany.mpr h), if_pos h]
    unfold dk
    rw [List.map_map, List.map_map]
    refine List.map_congr_left fun x _ => ?_
    show (if (Sum.inr x.1 : Key) = Sum.inr v then ((Sum.inr x.1 : Key), V.int n) else (Sum.inr x.1, V.int x.2)) = _
    by_cases e : x.1 = v
    · rw [if_pos (by rw [e])]
      show _ = ((Sum.inr (if x.1 = v then (x.1, n) else x).1 : Key), V.int (if x.1 = v then (x.1, n) else x).2)
      rw [if_pos e]
    · rw [if_neg (fun q => e (Sum.inr.inj q))]
      show _ = ((Sum.inr (if x.1 = v then (x.1, n) else x).1 : Key), V.int (if x.1 = v then (x.1, n) else x).2)
      rw [if_neg e]
  · rw [if_neg (fun q => h (hany.mp q)), if_neg h]
    unfold dk
    rw [List.map_append]
    rfl
theorem ks_putH (hv : List (Str × Int)) (v : Str) (n : Int) : ks (putH hv v n) = if v ∈ ks hv then ks hv else ks hv ++ [v] := by
  unfold putH
  by_cases h : v ∈ ks hv
  · rw [if_pos h, if_pos h]
    unfold ks
    rw [List.map_map]
    refine List.map_congr_left fun x _ => ?_
    show (if x.1 = v then (x.1, n) else x).1 = x.1
    split <;> rfl
  · rw [if_neg h, if_neg h]
    unfold ks
    rw [List.map_append]
    rfl
theorem putH_nd {hv : List (Str × Int)} {v : Str} {n : Int} (hn : (ks hv).Nodup) : (ks (putH hv v n)).Nodup := by
  rw [ks_putH]
  split
  · exact hn
  · rename_i h
    refine List.nodup_append.mpr ⟨hn, by simp, fun a ha b hb e => h ?_⟩
    rw [← List.mem_singleton.mp hb, ← e]
    exact ha
theorem putH_sub {hv : List (Str × Int)} {v u : Str} {n : Int} (h : u ∈ ks (putH hv v n)) : u ∈ ks hv ∨ u = v := by
  rw [ks_putH] at h
  split at h
  · exact .inl h
  · exact (List.mem_append.mp h).imp id fun q => List.mem_singleton.mp q
theorem dropH_sub {hv : List (Str × Int)} {v u : Str} (h : u ∈ ks (dropH hv v)) : u ∈ ks hv := by
  obtain ⟨x, h1, h2⟩ := List.mem_map.mp h
  exact List.mem_map.mpr ⟨x, (List.mem_filter.mp h1).1, h2⟩
theorem putH_len (hv : List (Str × Int)) (v : Str) (n : Int) : (putH hv v n).length ≤ hv.length + 1 := by
  unfold putH
  split
  · rw [List.length_map]; omega
  · rw [List.length_append]; simp
theorem dropH_dk (hv : List (Str × Int)) (v : Str) : dropK (dk V.int hv) (Sum.inr v) = dk V.int (dropH hv v) := by
  unfold dropK dropH dk
  rw [List.filter_map]
  congr 1
  refine List.filter_congr fun x _ => ?_
  show decide ((Sum.inr x.1 : Key) ≠ Sum.inr v) = decide (x.1 ≠ v)
  by_cases e : x.1 = v <;> simp [e]
theorem dropH_nd {hv : List (Str × Int)} {v : Str} (hn : (ks hv).Nodup) : (ks (dropH hv v)).Nodup := by
  unfold ks dropH
  exact hn.sublist ((List.filter_sublist).map _)
theorem dropH_len (hv : List (Str × Int)) (v : Str) : (dropH hv v).length ≤ hv.length := List.length_filter_le _ _
end Five
end
section
namespace Five
open PySem PySem.Spec PyProof.Rows L2
open PySem.W (Datum DatumOrd)
/-- to how many of some a place is tied -/
def cntL (rd : Str → List Str) (L : List Str) (v : Str) : Nat := ((rd v).filter fun u => decide (u ∈ L)).length
def mvL (rd : Str → List Str) (L : List Str) : List (Str × Int) := L.map fun v => (v, ((cntL rd L v : Nat) : Int))
theorem ks_mvL (rd : Str → List Str) (L : List Str) : ks (mvL rd L) = L := by
  unfold ks mvL
  rw [List.map_map]
  exact List.map_id L
def decL (mv : List (Str × Int)) (l : List Str) : List (Str × Int) := mv.map fun x => if x.1 ∈ l then (x.1, x.2 - 1) else x
theorem ks_decL (mv : List (Str × Int)) (l : List Str) : ks (decL mv l) = ks mv := by
  unfold ks decL
  rw [List.map_map]
  refine List.map_congr_left fun x _ => ?_
  show (if x.1 ∈ l then (x.1, x.2 - 1) else x).1 = x.1
  split <;> rfl
theorem decL_nil (mv : List (Str × Int)) : decL mv [] = mv := by
  unfold decL
  simp
theorem decL_out {mv : List (Str × Int)} {l : List Str} {o : Str} (h : o ∉ ks mv) : decL mv (l ++ [o]) = decL mv l := by
  unfold decL
  refine List.map_congr_left fun x hx => ?_
  have : x.1 ≠ o := fun e => h (by rw [← e]; exact List.mem_map.mpr ⟨x, hx, rfl⟩)
  simp [this]
theorem decL_in {mv : List (Str × Int)} {l : List Str} {o : Str} (hn : (ks mv).Nodup) (hl : o ∉ l) (h : o ∈ ks mv) : putH (decL mv l) o (hval (decL mv l) o - 1) = decL mv (l ++ [o]) := by
  unfold putH
  rw [if_pos (by rw [ks_decL]; exact h)]
  obtain ⟨⟨o', p⟩, hp, e⟩ := List.mem_map.mp h
  have e : o' = o := e
  subst e
  have hv : hval (decL mv l) o' = p := hval_of (by rw [ks_decL]; exact hn) (List.mem_map.mpr ⟨_, hp, by simp [hl]⟩)
  rw [hv]
  unfold decL
  rw [List.map_map]
  refine List.map_congr_left fun x hx => ?_
  show (if (if x.1 ∈ l then (x.1, x.2 - 1) else x).1 = o' then ((if x.1 ∈ l then (x.1, x.2 - 1) else x).1, p - 1) else (if x.1 ∈ l then (x.1, x.2 - 1) else x)) = _
  have e1 : (if x.1 ∈ l then (x.1, x.2 - 1) else x).1 = x.1 := by split <;> rfl
  rw [e1]
  by_cases c : x.1 = o'
  · have hx2 : x.2 = p := by
      have h1 := hval_of hn (show (x.1, x.2) ∈ mv from hx)
      have h2 := hval_of hn hp
      rw [c] at h1
      rw [← h1, h2]
    rw [if_pos c, if_pos (by simp [c]), hx2]
  · rw [if_neg c]
    by_cases c2 : x.1 ∈ l
    · rw [if_pos c2, if_pos (by simp [c2])]
    · rw [if_neg c2, if_neg (by simp [c2, c])]
theorem take_mvL {rd : Str → List Str} {L : List Str} {u : Str} (hu : u ∈ L) (hsym : ∀ v ∈ L, u ∈ rd v ↔ v ∈ rd u) (hrn : ∀ v ∈ L, (rd v).Nodup) : decL (dropH (mvL rd L) u) (rd u) = mvL rd (L.filter fun v => decide (v ≠ u)) := by
  have e1 : dropH (mvL rd L) u = (L.filter fun v => decide (v ≠ u)).map fun v => (v, ((cntL rd L v : Nat) : Int)) := by
    unfold dropH mvL
    rw [List.filter_map]
    rfl
  rw [e1]
  unfold decL mvL
  rw [List.map_map]
  refine List.map_congr_left fun v hv => ?_
  obtain ⟨hvL, hvu⟩ := List.mem_filter.mp hv
  have hvu : v ≠ u := of_decide_eq_true hvu
  show (if v ∈ rd u then (v, ((cntL rd L v : Nat) : Int) - 1) else (v, ((cntL rd L v : Nat) : Int))) = _
  have ef : ((rd v).filter fun x => decide (x ∈ L.filter fun v => decide (v ≠ u))) = ((rd v).filter fun x => decide (x ∈ L)).filter fun x => decide (x ≠ u) := by
    rw [List.filter_filter]
    refine List.filter_congr fun x _ => ?_
    by_cases a : x ∈ L <;> by_cases b : x = u <;> simp [a, b]
  by_cases c : v ∈ rd u
  · rw [if_pos c]
    have huv : u ∈ rd v := (hsym v hvL).mpr c
    have hm : u ∈ (rd v).filter fun x => decide (x ∈ L) := List.mem_filter.mpr ⟨huv, decide_eq_true hu⟩
    obtain ⟨A, B, s1, _, _, s2⟩ := filter_split ((hrn v hvL).sublist List.filter_sublist) hm
    have l1 : cntL rd L v = A.length + B.length + 1 := by unfold cntL; rw [s1]; simp; omega
    have l2 : cntL rd (L.filter fun v => decide (v ≠ u)) v = A.length + B.length := by unfold cntL; rw [ef, s2]; simp
    rw [l1, l2]
    congr 1
    omega
  · rw [if_neg c]
    have huv : u ∉ rd v := fun q => c ((hsym v hvL).mp q)
    have : cntL rd (L.filter fun v => decide (v ≠ u)) v = cntL rd L v := by
      unfold cntL
      rw [ef]
      congr 1
      refine List.filter_eq_self.mpr fun x hx => ?_
      have : x ≠ u := fun e => huv (by rw [← e]; exact (List.mem_filter.mp hx).1)
      simpa using this
    rw [this]
/-- the one tied to the fewest, of several the least -/
def Least (rd : Str → List Str) (L : List Str) (u : Str) : Prop := u ∈ L ∧ ∀ v ∈ L, leD (((cntL rd L u : Nat) : Int), u) (((cntL rd L v : Nat) : Int), v) = true
theorem Least.uniq {rd : Str → List Str} {L : List Str} {u v : Str} (h1 : Least rd L u) (h2 : Least rd L v) : u = v := (Prod.mk.inj (leD_anti (h1.2 v h2.1) (h2.2 u h1.1))).2
theorem cntL_congr {rd rd' : Str → List Str} {L L' : List Str} {v : Str} (h : ∀ x, x ∈ L ↔ x ∈ L') (hp : (rd v).Perm (rd' v)) : cntL rd L v = cntL rd' L' v := by
  unfold cntL
  rw [(hp.filter _).length_eq]
  congr 1
  refine List.filter_congr fun x _ => ?_
  by_cases a : x ∈ L
  · simp [a, (h x).mp a]
  · have b : x ∉ L' := fun q => a ((h x).mpr q)
    simp [a, b]
theorem Least.congr {rd rd' : Str → List Str} {L L' : List Str} {u : Str} (h : ∀ x, x ∈ L ↔ x ∈ L') (hp : ∀ v ∈ L, (rd v).Perm (rd' v)) (hl : Least rd L u) : Least rd' L' u := by
  refine ⟨(h u).mp hl.1, fun v hv => ?_⟩
  have hv' := (h v).mpr hv
  rw [← cntL_congr h (hp u hl.1), ← cntL_congr h (hp v hv')]
  exact hl.2 v hv'
inductive Ord (rd : Str → List Str) : List Str → List Str → Prop
  | nil : Ord rd [] []
  | cons {L : List Str} {u : Str} {l : List Str} : Least rd L u → Ord rd (L.filter fun v => decide (v ≠ u)) l → Ord rd L (u :: l)
theorem Ord.mem {rd : Str → List Str} {L l : List Str} (h : Ord rd L l) : ∀ x, x ∈ l ↔ x ∈ L := by
  induction h with
  | nil => intro x; rfl
  | @cons L u l a b ih =>
    intro x
    rw [List.mem_cons, ih, List.mem_filter, decide_eq_true_eq]
    constructor
    · rintro (e | ⟨e, _⟩)
      · rw [e]; exact a.1
      · exact e
    · intro e
      by_cases c : x = u
      · exact .inl c
      · exact .inr ⟨e, c⟩
theorem Ord.nodup {rd : Str → List Str} {L l : List Str} (h : Ord rd L l) : l.Nodup := by
  induction h with
  | nil => simp
  | cons a b ih =>
    refine List.nodup_cons.mpr ⟨fun q => ?_, ih⟩
    have := (b.mem _).mp q
    simp at this
theorem Ord.uniq {rd rd' : Str → List Str} {L l : List Str} (h : Ord rd L l) : ∀ {L' l' : List Str}, Ord rd' L' l' → (∀ x, x ∈ L ↔ x ∈ L') → (∀ v ∈ L, (rd v).Perm (rd' v)) → l = l' := by
  induction h with
  | nil =>
    intro L' l' h' hm _
    cases h' with
    | nil => rfl
    | cons a _ => exact absurd ((hm _).mpr a.1) (by simp)
  | @cons L u l a b ih =>
    intro L' l' h' hm hp
    cases h' with
    | nil => exact absurd ((hm _).mp a.1) (by simp)
    | @cons _ u' l2 a' b' =>
      have e : u = u' := (a.congr hm hp).uniq a'
      subst e
      rw [ih b' (fun x => by simp [hm x]) fun v hv => hp v (List.mem_filter.mp hv).1]
theorem Ord.snoc_len {rd : Str → List Str} {L l : List Str} (h : Ord rd L l) (hn : L.Nodup) : l.length = L.length := (perm_of_mem h.nodup hn h.mem).length_eq
end Five
end
section
namespace Five
open PySem PySem.Spec PyProof.Rows L2
open PySem.SeqAt (EqIn EqAt)
/-! a thing of one of two kinds: either reading will do -/
def tEith (t u : TE) : TE := fun σ H Q => t σ H Q ∨ u σ H Q
theorem pe_or2 {X : Cx} {e : Expr} {t u : TE} (h : PE X e t) (q : PE X e u) : PE X e (tEith t u) := ⟨fun pins s σ H Q I z => z.elim (h.run pins s σ H Q I) (q.run pins s σ H Q I)⟩
def rOr (r q : R2) : R2 := fun x y H Q => r x y H Q ∨ q x y H Q
theorem op_or2 {X : Cx} {f : Value → Value → Sem Value} {r q : R2} (h : OpR X f r) (k : OpR X f q) : OpR X f (rOr r q) := fun pins s σ H x y v u Q I a b z => z.elim (h pins s σ H x y v u Q I a b) (k pins s σ H x y v u Q I a b)
/-! d.copy(), xs.copy() -/
def rDCopy : V → List V → Hp → VK → Prop := fun x vs H Q => ∃ (a : Addr) (kvs : List (Key × V)), x = .ref a ∧ vs = [] ∧ Rd H a (.dK kvs) ∧ ∀ p, H p = none → Q (.ref p) (upd H p (.dK kvs))
theorem mtd_copy {X : Cx} : MtR X "dict.copy" rDCopy := by
  intro pins s σ H x vs v us Q I rx rv h
  obtain ⟨a, kvs, rfl, rfl, e, q⟩ := h
  obtain rfl : v = Value.ref a := rx
  have hus := rv.zero
  subst hus
  obtain ⟨z, lo, ws, rel, dd⟩ := dk_rd I.hok e
  obtain ⟨o, es, ep, ho, hc, hd, hk, hp, hn⟩ := id dd
  have hes : es.size = ws.length := by rw [← hp.length]; simp
  refine PySem.call_copy_raw lo ⟨o, ho, hc, hd⟩ (by rw [hes, ← rel.length]; exact z) (fun en he => .inl ?_) fun h' hr kp => ?_
  · obtain ⟨k, hk', _⟩ := hk en (by simpa using he)
    exact (mixKind X.prog X.w).byValue k _ hk'
  · obtain ⟨o', ho', hc', hd'⟩ := hr
    have hm : (s.heap.objs.size == sysModules) = false := beq_eq_false_iff_ne.mpr (Nat.ne_of_gt I.big)
    exact ⟨.ref s.heap.objs.size, upd H s.heap.objs.size (.dK kvs), I.laid (t' := s.toks) kp (Nat.le_refl _) (show ObjOk X.prog X.w _ _ _ (.dK kvs) from ⟨z, hm, ws, rel, o', es, 0, ho', hc', hd', hk, hp, hn⟩), rfl, q _ (I.hok.fresh (Nat.le_refl _))⟩
def rLCopy : V → List V → Hp → VK → Prop := fun x vs H Q => ∃ (a : Addr) (xs : List V), x = .ref a ∧ vs = [] ∧ H a = some (.lst xs) ∧ ∀ p, H p = none → Q (.ref p) (upd H p (.lst xs))
theorem mt_copy {X : Cx} : MtM X "list.copy" rLCopy := by
  intro pins s σ H x vs v us Q I rx rv h
  obtain ⟨l, xs, rfl, rfl, hH, q⟩ := h
  cases rx
  have hus := rv.zero
  subst hus
  obtain ⟨z, its, n, r, hl, e⟩ := I.lstM hH
  refine call_meets F.slot_list_copy ⟨_, e, rfl⟩ F.entry_list_copy (F.args_list_copy_1 _) (AutoSeq1.list_copy_list_0 l its.toArray n (by rw [List.size_toArray]; omega)) ⟨e, ?_⟩
  exact ⟨.ref s.heap.objs.size, _, I.laid (t' := s.toks) (fun b o' e' => Heap.get?_push_of_some _ e') (Nat.le_refl _) (show ObjOk X.prog X.w _ _ _ (.lst xs) from ⟨by omega, its, 0, r, Heap.get?_push_size _ rfl⟩), rfl, q _ (I.hok.fresh (Nat.le_refl _))⟩
section
variable {X : Cx} {o : Expr} {to : TE} {apos cpos : Pos}
theorem pe_dcopy (ho : PE X o to) (hbase : attributeBase o "copy" X.env (eval o X.env) = eval o X.env := by rfl) (hline : (apos.endLine == cpos.line) = true := by rfl) : PE X (.Call (.Attribute o "copy" apos) [] [] cpos) (tBM0 X.K "dict" rDCopy to) :=
  pe_bm0 PySem.F.plainAttrs_dict PySem.F.slot_dict_copy PySem.F.type_dict_copy mtd_copy ho hbase hline
end
/-! pairs of a text and a dict, which are alike -/
section
variable {prog : Program} {w : World}
theorem tup_neIn (l b : Addr) (xs ys : Array Value) (n n2 : Nat) (dd dd2 : Option Addr) (sl sl2 : Array (Option Value)) (hsz : xs.size = ys.size) :
    MeetsIn prog w (Builtin.«tuple.__ne__» ⟨[.ref l, .ref b], []⟩)
      (fun A R s => s.heap.get? l = some { cls := .type "tuple", dict := dd, data := .seq xs n, slots := sl } ∧ s.heap.get? b = some { cls := .type "tuple", dict := dd2, data := .seq ys n2, slots := sl2 } ∧
        (∀ p ∈ xs.toList.zip ys.toList, EqIn prog w A.in1 s p.1 p.2 true) ∧ R (.ok (.ret (.bool false))) s) :=
  .of_wp fun A R s h => by
    obtain ⟨hp, g, d, tk, os⟩ := s; obtain ⟨hl, hb, he, h⟩ := h
    have f2 := AutoSeq1.sub_tuple_tuple
    wp_walk using AutoSeq1.wpAny_loadPart' hl, AutoSeq1.wpAny_loadPart' hb, wpAny_forIn_list _ (fun rest b s' => b.1 = none ∧ s' = ⟨hp, g, d, tk, os⟩ ∧ ∀ p ∈ rest, EqIn prog w A.in1 ⟨hp, g, d, tk, os⟩ p.1 p.2 true) _
    case turn =>
      rintro ⟨y, x⟩ rest b s' ⟨hb', rfl, hr⟩
      refine wpAny_bind (hr (y, x) List.mem_cons_self _ _ ?_)
      wp_walk
      exact ⟨rfl, rfl, fun p hp => hr p (List.mem_cons_of_mem _ hp)⟩
    case fin =>
      rintro ⟨b1, b2⟩ s' ⟨hb', rfl, _⟩
      simp only at hb'
      subst hb'
      wp_walk
      exact ⟨_, rfl, by simpa [Builtin.Tuple.tupleCompareSizes, hsz] using h⟩
    case h => exact ⟨rfl, rfl, he⟩
end
def rNeTW (K : PySem.W.Frag) : R2 := fun x y H Q => ∃ (a b d e : Addr) (k : Str) (ks ls : List (Key × V)), x = .ref a ∧ y = .ref b ∧ SqT K H a [.str k, .ref d] ∧ SqT K H b [.str k, .ref e] ∧ H d = some (.dK ks) ∧ H e = some (.dK ls) ∧ ks.length = ls.length ∧ (∀ p ∈ ks, valV ls p.1 = some p.2 ∧ flatB p.2 = true) ∧ Q (.bl false) H
theorem keq_in {prog : Program} {w : World} {K : Type} [DecidableEq K] {A : Around} {s : Shared} {kb : List (K × Value)} : ∀ {r : List (K × Value)} {b : Bool}, PySem.W.KeqHits A s kb r b → PySem.W.KeqHitsIn prog w A s kb r b
  | _, _, .nil => .nil
  | _, _, .miss h => .miss h
  | _, _, .hit h e q => .hit h (e.inModel prog w) (keq_in q)
theorem op_neTW {X : Cx} {K : PySem.W.Frag} (hu : X.A.units + 64 < cLine) (hK : X.K = K := by rfl) : OpR X (compareOp .NotEq) (rNeTW K) := by
  subst hK
  intro pins s σ H x y v u Q I rx ry h
  obtain ⟨a, b, d, e, k, ks, ls, rfl, rfl, ha, hb, hd, he, hlen, hp, q⟩ := h
  obtain rfl : v = Value.ref a := rx
  obtain rfl : u = Value.ref b := ry
  obtain ⟨ia, va, ta, _⟩ := I.tuple ha
  obtain ⟨ib, vb, tb, _⟩ := I.tuple hb
  obtain ⟨u1, r1, e1, q1, z1⟩ : ∃ u1 r1, ia = u1 :: r1 ∧ RelV (.str k) u1 ∧ Vals [.ref d] r1 := by cases va with | cons q1 z1 => exact ⟨_, _, rfl, q1, z1⟩
  obtain ⟨u2, r2, e2, q2, z2⟩ : ∃ u1 r1, ib = u1 :: r1 ∧ RelV (.str k) u1 ∧ Vals [.ref e] r1 := by cases vb with | cons q1 z1 => exact ⟨_, _, rfl, q1, z1⟩
  obtain ⟨t1, rfl⟩ : ∃ t, u1 = .str k t := q1
  obtain ⟨t2, rfl⟩ : ∃ t, u2 = .str k t := q2
  have e3 := Vals.ref1 z1
  have e4 := Vals.ref1 z2
  subst e3
  subst e4
  subst e1
  subst e2
  obtain ⟨⟨c1, dd, data, sl⟩, ho, hc, n, hdt⟩ := ta
  obtain ⟨⟨c2, dd2, data2, sl2⟩, ho2, hc2, n2, hdt2⟩ := tb
  simp only at hc hdt hc2 hdt2
  subst hc hdt hc2 hdt2
  refine wpAny_richCompare_same_room (T := "tuple") (op := .NotEq) ⟨_, ho, rfl⟩ ⟨_, ho2, rfl⟩ F.slot_tuple_ne (call_meetsIn F.slot_tuple_ne ⟨_, ho, rfl⟩ F.entry_tuple_ne (F.args_tuple_ne_2 _ _) (tup_neIn a b #[Value.str k t1, Value.ref d] #[Value.str k t2, Value.ref e] n n2 dd dd2 sl sl2 rfl) ⟨ho, ho2, fun p hp' => ?_, (fun x => nomatch x), ⟨.bl false, H, I, rfl, q⟩⟩) (by omega)
  rcases List.mem_cons.mp hp' with rfl | hp'
  · exact (SeqAt.EqAt.str_str k t1 k t2).inModel _ _ |> fun z => by simpa using z
  rcases List.mem_cons.mp hp' with rfl | hp'
  · by_cases ed : d = e
    · subst ed
      exact (SeqAt.EqAt.same _).inModel _ _
    obtain ⟨_, ya, wa, ra, da⟩ := (show ObjOk X.prog X.w H s.heap d (.dK ks) from I.hok d _ hd)
    obtain ⟨_, yb, wb, rb, db⟩ := (show ObjOk X.prog X.w H s.heap e (.dK ls) from I.hok e _ he)
    have hl : wa.length = wb.length := by rw [← ra.length, ← rb.length]; exact hlen
    refine SeqAt.EqIn.of_refs ed fun E Q hq => PySem.W.keq_eqIn (knd := mixKind X.prog X.w) (r := true) ya yb da db ?_ (fun _ => keq_in (hits_all rb ra hp)) (by rw [hl]; simpa using hq)
    show X.A.units + 1 < cLine
    omega
  · cases hp'
end Five
end
section
namespace Five
open PySem PySem.Spec PyProof.Rows L2
open PySem.W (Datum DatumOrd)
/-! the least hue that is free -/
def IsMex (l : List Int) (n : Nat) : Prop := (n : Int) ∉ l ∧ ∀ m : Nat, m < n → (m : Int) ∈ l
theorem IsMex.uniq {l : List Int} {n m : Nat} (h1 : IsMex l n) (h2 : IsMex l m) : n = m := by
  rcases Nat.lt_trichotomy n m with c | c | c
  · exact absurd (h2.2 n c) h1.1
  · exact c
  · exact absurd (h1.2 m c) h2.1
theorem below_le {l : List Int} {n : Nat} (h : ∀ m : Nat, m < n → (m : Int) ∈ l) : n ≤ l.length := by
  have h1 : ((List.range n).map fun m : Nat => (m : Int)).length ≤ l.length := nodup_le (List.Pairwise.map (fun m : Nat => (m : Int)) (fun a b (q : a ≠ b) => fun e => q (Int.ofNat_inj.mp e)) (show (List.range n).Pairwise (· ≠ ·) from List.nodup_range)) fun x hx => by
    obtain ⟨m, hm, rfl⟩ := List.mem_map.mp hx
    exact h m (List.mem_range.mp hm)
  simpa using h1
theorem IsMex.le {l : List Int} {n : Nat} (h : IsMex l n) : n ≤ l.length := below_le h.2
theorem mex_from (l : List Int) : ∀ (k n : Nat), (∀ m : Nat, m < n → (m : Int) ∈ l) → l.length + 1 - n ≤ k → ∃ j, IsMex l j
  | 0, n, h, hk => by
    have := below_le h
    omega
  | k + 1, n, h, hk => by
    by_cases c : (n : Int) ∈ l
    · refine mex_from l k (n + 1) (fun m hm => ?_) (by omega)
      by_cases e : m = n
      · rw [e]; exact c
      · exact h m (by omega)
    · exact ⟨n, c, h⟩
theorem mex_ex (l : List Int) : ∃ j, IsMex l j := mex_from l _ 0 (fun _ h => absurd h (Nat.not_lt_zero _)) (Nat.le_refl _)
noncomputable def mexN (l : List Int) : Nat := Classical.choose (mex_ex l)
theorem mexN_is (l : List Int) : IsMex l (mexN l) := Classical.choose_spec (mex_ex l)
theorem mexN_eq {l : List Int} {n : Nat} (h : IsMex l n) : mexN l = n := (mexN_is l).uniq h
theorem mexN_congr {l l' : List Int} (h : ∀ x, x ∈ l ↔ x ∈ l') : mexN l = mexN l' := mexN_eq ⟨fun q => (mexN_is l').1 ((h _).mp q), fun m hm => (h _).mpr ((mexN_is l').2 m hm)⟩
/-! hues by an order, from behind -/
def takenL (rd : Str → List Str) (hv : List (Str × Int)) (v : Str) : List Int := (rd v).filterMap fun u => if u ∈ ks hv then some (hval hv u) else none
noncomputable def sixL (rd : Str → List Str) (l : List Str) : List (Str × Int) := l.foldl (fun hv v => hv ++ [(v, ((mexN (takenL rd hv v) : Nat) : Int))]) []
theorem sixL_snoc (rd : Str → List Str) (l : List Str) (v : Str) : sixL rd (l ++ [v]) = sixL rd l ++ [(v, ((mexN (takenL rd (sixL rd l) v) : Nat) : Int))] := by
  unfold sixL
  rw [List.foldl_append]
  rfl
theorem ks_snoc (hv : List (Str × Int)) (v : Str) (n : Int) : ks (hv ++ [(v, n)]) = ks hv ++ [v] := by unfold ks; rw [List.map_append]; rfl
theorem ks_sixL (rd : Str → List Str) : ∀ n (l : List Str), l.length = n → ks (sixL rd l) = l := by
  intro n
  induction n with
  | zero =>
    intro l h
    rw [List.length_eq_zero_iff.mp h]
    rfl
  | succ n ih =>
    intro l h
    have hne : l ≠ [] := by intro e; rw [e] at h; simp at h
    rw [← List.dropLast_concat_getLast hne, sixL_snoc, ks_snoc, ih _ (by rw [List.length_dropLast]; omega)]
theorem ks_six (rd : Str → List Str) (l : List Str) : ks (sixL rd l) = l := ks_sixL rd _ l rfl
theorem sixL_congr {rd rd' : Str → List Str} {n : Nat} : ∀ (l : List Str), l.length = n → (∀ v ∈ l, (rd v).Perm (rd' v)) → sixL rd l = sixL rd' l := by
  induction n with
  | zero =>
    intro l h _
    rw [List.length_eq_zero_iff.mp h]
    rfl
  | succ n ih =>
    intro l h hp
    have hne : l ≠ [] := by intro e; rw [e] at h; simp at h
    have hl := List.dropLast_concat_getLast hne
    have e1 := ih l.dropLast (by rw [List.length_dropLast]; omega) fun v hv => hp v (by rw [← hl]; exact List.mem_append_left _ hv)
    have hpl := hp (l.getLast hne) (List.getLast_mem hne)
    rw [← hl, sixL_snoc, sixL_snoc, e1]
    congr 4
    exact mexN_congr fun x => (hpl.filterMap _).mem_iff
theorem taken_len (rd : Str → List Str) (hv : List (Str × Int)) (v : Str) : (takenL rd hv v).length = cntL rd (ks hv) v := by
  unfold takenL cntL
  induction rd v with
  | nil => rfl
  | cons a r ih =>
    by_cases c : a ∈ ks hv
    · rw [List.filterMap_cons_some (f := fun u => if u ∈ ks hv then some (hval hv u) else none) (b := hval hv a) (if_pos c), List.filter_cons_of_pos (p := fun u => decide (u ∈ ks hv)) (decide_eq_true c), List.length_cons, List.length_cons, ih]
    · rw [List.filterMap_cons_none (f := fun u => if u ∈ ks hv then some (hval hv u) else none) (if_neg c), List.filter_cons_of_neg (p := fun u => decide (u ∈ ks hv)) (by simpa using c), ih]
theorem mem_taken {rd : Str → List Str} {hv : List (Str × Int)} {v u : Str} (h1 : u ∈ rd v) (h2 : u ∈ ks hv) : hval hv u ∈ takenL rd hv v := List.mem_filterMap.mpr ⟨u, h1, if_pos h2⟩
theorem hval_snoc_old {hv : List (Str × Int)} {v u : Str} {n : Int} (hn : (ks hv).Nodup) (hv0 : v ∉ ks hv) (hu : u ∈ ks hv) : hval (hv ++ [(v, n)]) u = hval hv u := by
  obtain ⟨⟨u', p⟩, h1, h2⟩ := List.mem_map.mp hu
  have h2 : u' = u := h2
  subst h2
  rw [hval_of hn h1]
  refine hval_of ?_ (List.mem_append_left _ h1)
  rw [ks_snoc]
  exact List.nodup_append.mpr ⟨hn, by simp, fun a ha b hb => by rw [List.mem_singleton.mp hb]; intro e; rw [e] at ha; exact hv0 ha⟩
theorem hval_snoc_new {hv : List (Str × Int)} {v : Str} {n : Int} (hn : (ks hv).Nodup) (hv0 : v ∉ ks hv) : hval (hv ++ [(v, n)]) v = n := by
  refine hval_of ?_ (List.mem_append_right _ (by simp))
  rw [ks_snoc]
  exact List.nodup_append.mpr ⟨hn, by simp, fun a ha b hb => by rw [List.mem_singleton.mp hb]; intro e; rw [e] at ha; exact hv0 ha⟩
/-- right hues below six -/
theorem six_right {vs : List Str} {rd : Str → List Str} (pl : Pl vs rd) {Lh l : List Str} (h : Ord rd Lh l) : (∀ v ∈ Lh, v ∈ vs) → Lh.Nodup →
    (∀ v ∈ l, 0 ≤ hval (sixL rd l.reverse) v ∧ hval (sixL rd l.reverse) v < 6) ∧ ∀ v ∈ l, ∀ u ∈ l, u ∈ rd v → hval (sixL rd l.reverse) u ≠ hval (sixL rd l.reverse) v := by
  induction h with
  | nil => exact fun _ _ => ⟨fun v h => absurd h (by simp), fun v h => absurd h (by simp)⟩
  | @cons L u l a b ih =>
    intro hs hn
    obtain ⟨i1, i2⟩ := ih (fun v hv => hs v (List.mem_filter.mp hv).1) (hn.sublist List.filter_sublist)
    have hul : u ∉ l := fun q => by simpa using (b.mem u).mp q
    rw [List.reverse_cons, sixL_snoc]
    have hk : ks (sixL rd l.reverse) = l.reverse := ks_six rd _
    have hkn : (ks (sixL rd l.reverse)).Nodup := by rw [hk]; exact (List.reverse_perm l).nodup_iff.mpr b.nodup
    have hu0 : u ∉ ks (sixL rd l.reverse) := by rw [hk, List.mem_reverse]; exact hul
    have eo : ∀ v ∈ l, hval (sixL rd l.reverse ++ [(u, ((mexN (takenL rd (sixL rd l.reverse) u) : Nat) : Int))]) v = hval (sixL rd l.reverse) v := fun v hv => hval_snoc_old hkn hu0 (by rw [hk, List.mem_reverse]; exact hv)
    have en : hval (sixL rd l.reverse ++ [(u, ((mexN (takenL rd (sixL rd l.reverse) u) : Nat) : Int))]) u = ((mexN (takenL rd (sixL rd l.reverse) u) : Nat) : Int) := hval_snoc_new hkn hu0
    have hm := mexN_is (takenL rd (sixL rd l.reverse) u)
    have h5 : mexN (takenL rd (sixL rd l.reverse) u) ≤ 5 := by
      refine Nat.le_trans hm.le ?_
      rw [taken_len, hk]
      obtain ⟨v, hv, q5⟩ := low_in pl hs a.1
      have q6 : cntL rd L v ≤ 5 := q5
      have q7 : ((cntL rd L u : Nat) : Int) ≤ ((cntL rd L v : Nat) : Int) := by
        have := a.2 v hv
        unfold leD at this
        have h1 : (if (cntL rd L v : Int) = (cntL rd L u : Int) then DatumOrd.lt v u else DatumOrd.lt (cntL rd L v : Int) (cntL rd L u : Int)) = false := by
          have : DatumOrd.lt ((cntL rd L v : Int), v) ((cntL rd L u : Int), u) = false := by simpa using this
          exact this
        by_cases e : (cntL rd L v : Int) = (cntL rd L u : Int)
        · omega
        · rw [if_neg e] at h1
          have h3 : decide ((cntL rd L v : Int) < (cntL rd L u : Int)) = false := h1
          have := of_decide_eq_false h3
          omega
      have q8 : cntL rd l.reverse u ≤ cntL rd L u := by
        unfold cntL
        rw [← List.countP_eq_length_filter, ← List.countP_eq_length_filter]
        refine List.countP_mono_left fun x _ hx => ?_
        have : x ∈ l.reverse := of_decide_eq_true hx
        exact decide_eq_true (List.mem_filter.mp ((b.mem x).mp (List.mem_reverse.mp this))).1
      omega
    refine ⟨fun v hv => ?_, fun v hv w hw hwv => ?_⟩
    · rcases List.mem_cons.mp hv with e | e
      · rw [e, en]; omega
      · rw [eo v e]; exact i1 v e
    · rcases List.mem_cons.mp hv with e | e
      · rcases List.mem_cons.mp hw with e2 | e2
        · rw [e, e2] at hwv
          exact absurd rfl (pl.wf.ties u (hs u a.1) u hwv).2.1
        · rw [e, en, eo w e2]
          rw [e] at hwv
          intro z
          exact hm.1 (by rw [← z]; exact mem_taken hwv (by rw [hk, List.mem_reverse]; exact e2))
      · rcases List.mem_cons.mp hw with e2 | e2
        · rw [e2, en, eo v e]
          rw [e2] at hwv
          have hvL : v ∈ L := (List.mem_filter.mp ((b.mem v).mp e)).1
          intro z
          exact hm.1 (by rw [z]; exact mem_taken (pl.wf.ties v (hs v hvL) u hwv).2.2 (by rw [hk, List.mem_reverse]; exact e))
        · rw [eo v e, eo w e2]
          exact i2 v e w e2 hwv
/-! the icosahedron -/
def icoN (i : Nat) : List Nat :=
  if i < 5 then [10, (i + 1) % 5, 5 + (i + 1) % 5, 5 + i, (i + 4) % 5] else if i < 10 then [11, 5 + (i - 5 + 4) % 5, (i - 5 + 4) % 5, i - 5, 5 + (i - 5 + 1) % 5] else if i = 10 then [4, 3, 2, 1, 0] else [5, 6, 7, 8, 9]
def icoV : List Nat := [0, 5, 1, 6, 2, 7, 3, 8, 4, 9, 10, 11]
def icoF : List (List (Nat × Nat)) := (darts icoV icoN).filterMap fun s => if s.1 < (fs icoN s).1 ∧ s.1 < (fs icoN (fs icoN s)).1 then some [s, fs icoN s, fs icoN (fs icoN s)] else none
def icoR : Nat → Nat → List Nat
  | 0, v => [v]
  | n + 1, v => (icoN v).flatMap (icoR n) ++ icoR n v
theorem ico_reach {S : Nat → Prop} (h : ∀ v u, v ∈ icoV → S v → u ∈ icoN v → S u) (hs : ∀ v ∈ icoV, ∀ u ∈ icoN v, u ∈ icoV) : ∀ n v, v ∈ icoV → S v → ∀ u ∈ icoR n v, S u
  | 0, v, hv, sv, u, hu => by rw [List.mem_singleton.mp hu]; exact sv
  | n + 1, v, hv, sv, u, hu => by
    rcases List.mem_append.mp hu with q | q
    · obtain ⟨x, hx, q⟩ := List.mem_flatMap.mp q
      exact ico_reach h hs n x (hs v hv x hx) (h v x hv sv hx) u q
    · exact ico_reach h hs n v hv sv u q
theorem ico_in : ∀ v ∈ icoV, ∀ u ∈ icoN v, u ∈ icoV := by decide +kernel
theorem ico_far : ∀ v ∈ icoV, ∀ u ∈ icoV, u ∈ icoR 3 v := by decide +kernel
theorem ico_three : ∀ s ∈ darts icoV icoN, fs icoN (fs icoN (fs icoN s)) = s := by decide +kernel
theorem ico_pl : Pl icoV icoN := by
  refine ⟨⟨by decide +kernel, by decide +kernel, by decide +kernel⟩, icoF, [icoV], ⟨by decide +kernel, fun c hc => ?_⟩, ⟨by simp, fun c hc => ?_, fun c hc => ?_⟩, by decide +kernel⟩
  · obtain ⟨s, hs, e⟩ := List.mem_filterMap.mp hc
    split at e
    · cases e
      exact ⟨rfl, rfl, ico_three s hs⟩
    · cases e
  · rw [List.mem_singleton.mp hc]
    exact ico_in
  · rw [List.mem_singleton.mp hc]
    exact ⟨by decide, fun S h v hv sv u hu => ico_reach h ico_in 3 v hv sv u (ico_far v hv u hu)⟩
/-- with names -/
def icoW (g : Nat → Str) : List Row := icoV.map fun i => (g i, (icoN i).map g)
theorem vsf_ico (g : Nat → Str) : vsf (icoW g) = icoV.map g := by
  unfold vsf icoW
  rw [List.map_map]
  rfl
theorem ico_w {g : Nat → Str} (hg : ∀ i ∈ icoV, ∀ j ∈ icoV, g i = g j → i = j) : Pl (vsf (icoW g)) (rdf (icoW g)) := by
  have hn : (vsf (icoW g)).Nodup := by
    rw [vsf_ico]
    exact List.pairwise_map.mpr (List.Pairwise.imp_of_mem (fun {a b} ha hb (q : a ≠ b) => fun e => q (hg a ha b hb e)) (show icoV.Pairwise (· ≠ ·) from ico_pl.wf.nd))
  refine Pl.named g ico_pl hg (by rw [vsf_ico]) fun v hv => ⟨[], (icoN v).map g, rfl, ?_⟩
  rw [List.append_nil]
  exact rdf_of hn (List.mem_map.mpr ⟨v, hv, rfl⟩)
end Five
end
section
namespace Five
open PySem PySem.Spec PyProof.Rows L2
/-- a text or None -/
def oV' : Option Str → V
  | none => .non
  | some u => .str u
theorem notN'_none : (!decide (oV' none = V.non)) = false := by simp [oV']
theorem notN'_some {u : Str} : (!decide (oV' (some u) = V.non)) = true := by simp [oV']
/-- rounds by names, in the making: the dict at d, draws from the pot at p -/
def GD (K : PySem.W.Frag) (p d : Addr) (H : Hp) (W : List Row) : Prop := ∃ kvs, H d = some (.dK kvs) ∧ Paired (RowKV K (wo H [d, p])) kvs W
def setR (W : List Row) (v : Str) (l : List Str) : List Row := W.map fun r => if r.1 = v then (r.1, l) else r
theorem vsf_setR (W : List Row) (v : Str) (l : List Str) : vsf (setR W v l) = vsf W := by
  unfold vsf setR
  rw [List.map_map]
  refine List.map_congr_left fun r _ => ?_
  show (if r.1 = v then (r.1, l) else r).1 = r.1
  split <;> rfl
theorem setR_len (W : List Row) (v : Str) (l : List Str) : (setR W v l).length = W.length := by unfold setR; rw [List.length_map]
theorem setR_cons (r : Row) (W : List Row) (v : Str) (l : List Str) : setR (r :: W) v l = (if r.1 = v then (r.1, l) else r) :: setR W v l := rfl
theorem rdf_setR_ne {W : List Row} {v u : Str} {l : List Str} (h : u ≠ v) : rdf (setR W v l) u = rdf W u := by
  induction W with
  | nil => rfl
  | cons r W ih =>
    rw [setR_cons, rdf_cons, rdf_cons, ih]
    by_cases e : r.1 = v
    · rw [if_pos e, if_neg (fun q => h (q.symm.trans e)), if_neg (fun q => h (q.symm.trans e))]
    · rw [if_neg e]
theorem rdf_setR_eq {W : List Row} {v : Str} {l : List Str} (hv : v ∈ vsf W) : rdf (setR W v l) v = l := by
  induction W with
  | nil => cases hv
  | cons r W ih =>
    rw [setR_cons, rdf_cons]
    by_cases e : r.1 = v
    · rw [if_pos e, if_pos e]
    · rw [if_neg e, if_neg e]
      exact ih ((List.mem_cons.mp hv).resolve_left fun q => e q.symm)
theorem rdf_app {W : List Row} {r : Row} (h : r.1 ∉ vsf W) (u : Str) : rdf (W ++ [r]) u = if u = r.1 then r.2 else rdf W u := by
  induction W with
  | nil =>
    rw [List.nil_append, rdf_cons]
    by_cases e : u = r.1
    · rw [if_pos e.symm, if_pos e]
    · rw [if_neg (fun q => e q.symm), if_neg e]
  | cons x W ih =>
    rw [List.cons_append, rdf_cons, rdf_cons, ih fun q => h (List.mem_cons_of_mem _ q)]
    by_cases e : x.1 = u
    · rw [if_pos e, if_pos e, if_neg]
      intro q
      exact h (by rw [← q, ← e]; exact List.mem_cons_self)
    · rw [if_neg e, if_neg e]
section
variable {K : PySem.W.Frag} {p d a : Addr} {H H' : Hp} {W : List Row} {v : Str} {l : List Str}
theorem GD.rds (h : GD K p d H W) : RdsAt K H d W := by
  obtain ⟨kvs, h1, h2⟩ := h
  exact ⟨kvs, .inl h1, Paired.mapP h2 fun _ _ q => rowKV_up wo_same.sm q⟩
theorem GD.of {kvs : List (Key × V)} (hd : H' d = some (.dK kvs)) (h : Paired (RowKV K (wo H [d, p])) kvs W) (s : Same (wo H [d, p]) H') : GD K p d H' W := by
  refine ⟨kvs, hd, Paired.mapP h fun _ _ q => rowKV_up (Same.sm fun b o e => ?_) q⟩
  obtain ⟨q1, q2⟩ := wo_get e
  rw [wo_out q2]
  exact s _ _ e
theorem GD.same (h : GD K p d H W) (s : Same H H') : GD K p d H' W := by
  obtain ⟨kvs, h1, h2⟩ := h
  exact GD.of (s _ _ h1) h2 (wo_same.trans s)
theorem GD.dr (h : GD K p d H W) (n : d ≠ p) (s : Dr p H H') : GD K p d H' W := by
  obtain ⟨kvs, h1, h2⟩ := h
  refine GD.of (s.get n h1) h2 fun b o e => ?_
  obtain ⟨q1, q2⟩ := wo_get e
  exact s.get (fun z => q2 (by rw [z]; simp)) q1
theorem GD.ne (h : GD K p d H W) : H d ≠ none := by
  obtain ⟨kvs, h1, _⟩ := h
  rw [h1]; simp
theorem putK_rows {G : Hp} (hr : RowKV K G (Sum.inr v, .ref a) (v, l)) : ∀ {kvs : List (Key × V)} {W : List Row}, Paired (RowKV K G) kvs W → Paired (RowKV K G) (kvs.map fun kv => if kv.1 = Sum.inr v then (kv.1, V.ref a) else kv) (setR W v l)
  | _, _, .nil => .nil
  | _, _, .cons (a := kv) (b := r) h t => by
    rw [List.map_cons, setR_cons]
    refine .cons ?_ (putK_rows hr t)
    by_cases e : r.1 = v
    · rw [if_pos (show kv.1 = Sum.inr v by rw [h.1, e]), if_pos e]
      obtain ⟨_, b, hb, hl⟩ := hr
      cases hb
      exact ⟨h.1, a, rfl, hl⟩
    · rw [if_neg (show ¬ kv.1 = Sum.inr v from fun q => e (Sum.inr.inj (h.1.symm.trans q))), if_neg e]
      exact h
theorem any_key {G : Hp} : ∀ {kvs : List (Key × V)} {W : List Row}, Paired (RowKV K G) kvs W → ((kvs.any fun kv => decide (kv.1 = Sum.inr v)) = true ↔ v ∈ vsf W)
  | _, _, .nil => by simp
  | _, _, .cons (a := kv) (b := r) h t => by
    rw [List.any_cons, Bool.or_eq_true, any_key t, decide_eq_true_eq, h.1]
    show Sum.inr r.1 = Sum.inr v ∨ _ ↔ v ∈ r.1 :: vsf _
    rw [List.mem_cons]
    exact ⟨fun q => q.imp (fun z => (Sum.inr.inj z).symm) id, fun q => q.imp (fun z => by rw [z]) id⟩
theorem GD.put {kvs : List (Key × V)} (hd : H d = some (.dK kvs)) (h : Paired (RowKV K (wo H [d, p])) kvs W) (ha : H a = some (.lst (l.map V.str))) (n1 : a ≠ d) (n2 : a ≠ p) :
    GD K p d (upd H d (.dK (putK kvs (Sum.inr v) (.ref a)))) (if v ∈ vsf W then setR W v l else W ++ [(v, l)]) := by
  have hr : RowKV K (wo H [d, p]) (Sum.inr v, .ref a) (v, l) := ⟨rfl, a, rfl, LS.of ha (by simp [n1, n2])⟩
  have hw : wo (upd H d (.dK (putK kvs (Sum.inr v) (.ref a)))) [d, p] = wo H [d, p] := wo_mut (by simp)
  refine ⟨_, upd_same, ?_⟩
  rw [hw]
  unfold putK
  by_cases e : v ∈ vsf W
  · rw [if_pos ((any_key h).mpr e), if_pos e]
    exact putK_rows hr h
  · rw [if_neg (fun q => e ((any_key h).mp q)), if_neg e]
    exact paired_snoc h hr
theorem GD.size {kvs : List (Key × V)} (hd : H d = some (.dK kvs)) (h : GD K p d H W) : kvs.length = W.length := by
  obtain ⟨kvs', h1, h2⟩ := h
  rw [hd] at h1
  cases h1
  exact Paired.length h2
end
theorem GD.getM {K : PySem.W.Frag} {p d : Addr} {H : Hp} {W : List Row} {v : Str} (h : GD K p d H W) (hv : v ∈ vsf W) : ∃ a, LS K (wo H [d, p]) a (rdf W v) ∧ ∀ H', Same H H' → DGet H' d (.str v) (some (.ref a)) := by
  obtain ⟨kvs, h1, h2⟩ := h
  obtain ⟨a, e1, e2⟩ := rowKV_get h2 hv
  exact ⟨a, e2, fun H' s => .inl ⟨kvs, Sum.inr v, .inl (s _ _ h1), rfl, e1.symm⟩⟩
theorem Dr.wo2 {p d : Addr} {H H' : Hp} (s : Dr p H H') : Same (wo H [d, p]) H' := fun b z e => by
  obtain ⟨q1, q2⟩ := wo_get e
  exact s.get (fun y => q2 (by rw [y]; simp)) q1
theorem GD.fin1 {d : Addr} {H G : Hp} {o : HO} (s : Same H G) : Same (wo H [d]) (upd G d o) := fun b o e => by
  obtain ⟨q1, q2⟩ := wo_get e
  rw [upd_ne (by simpa using q2)]
  exact s _ _ q1
theorem GD.fin2 {K : PySem.W.Frag} {p d a : Addr} {H G : Hp} {W : List Row} {v : Str} {l : List Str} {kvs : List (Key × V)} {vs : List V} (s : Same H G) (hg : GD K p d H W) (hd : H d = some (.dK kvs)) (pot : PotAt H p) (hv : v ∈ vsf W) (hfr : H a = none) (ha : G a = some (.lst vs)) (e : vs = l.map V.str) : GD K p d (upd G d (.dK (putK kvs (Sum.inr v) (.ref a)))) (setR W v l) := by
  subst e
  obtain ⟨kvs', h1, h2⟩ := hg
  rw [hd] at h1
  cases h1
  have := GD.put (v := v) (s _ _ hd) (Paired.mapP h2 fun _ _ q => rowKV_up s.wo.sm q) ha (fun e => by rw [e, hd] at hfr; cases hfr) (fun e => pot.ne (by rw [← e]; exact hfr))
  rwa [if_pos hv] at this
theorem GD.fin3 {K : PySem.W.Frag} {p d a : Addr} {H G : Hp} {W : List Row} {v : Str} {l : List Str} {kvs : List (Key × V)} {vs : List V} (s : Same H G) (hg : GD K p d H W) (hd : H d = some (.dK kvs)) (pot : PotAt H p) (hv : v ∉ vsf W) (hfr : H a = none) (ha : G a = some (.lst vs)) (e : vs = l.map V.str) : GD K p d (upd G d (.dK (putK kvs (Sum.inr v) (.ref a)))) (W ++ [(v, l)]) := by
  subst e
  obtain ⟨kvs', h1, h2⟩ := hg
  rw [hd] at h1
  cases h1
  have := GD.put (v := v) (s _ _ hd) (Paired.mapP h2 fun _ _ q => rowKV_up s.wo.sm q) ha (fun e => by rw [e, hd] at hfr; cases hfr) (fun e => pot.ne (by rw [← e]; exact hfr))
  rwa [if_neg hv] at this
/-- only the pot and the dict have changed -/
structure D2 (p d : Addr) (H H' : Hp) : Prop where
  s : Same (wo H [d, p]) H'
  pot : PotAt H' p
section
variable {p d q : Addr} {H H1 H2 : Hp} {o : HO}
theorem D2.refl (h : PotAt H p) : D2 p d H H := ⟨wo_same, h⟩
theorem D2.get (a : D2 p d H H1) (n1 : q ≠ d) (n2 : q ≠ p) (h : H q = some o) : H1 q = some o := a.s _ _ (by rw [wo_out (by simp [n1, n2])]; exact h)
theorem D2.dr (a : D2 p d H H1) (b : Dr p H1 H2) : D2 p d H H2 := ⟨fun x o e => by
  obtain ⟨h1, h2⟩ := wo_get e
  exact b.get (fun z => h2 (by rw [z]; simp)) (a.s _ _ e), b.pot⟩
theorem D2.same (a : D2 p d H H1) (b : Same H1 H2) : D2 p d H H2 := ⟨a.s.trans b, a.pot.same b⟩
theorem D2.mut (a : D2 p d H H1) (b : Same (wo H1 [d]) H2) (n : d ≠ p) : D2 p d H H2 := by
  refine ⟨fun x o e => ?_, ?_⟩
  · obtain ⟨h1, h2⟩ := wo_get e
    exact b _ _ (by rw [wo_out fun z => h2 (by rw [List.mem_singleton.mp z]; simp)]; exact a.s _ _ e)
  · obtain ⟨x, y, h1, h2⟩ := a.pot
    exact ⟨x, y, b _ _ (by rw [wo_out (by simpa using n.symm)]; exact h1), h2⟩
theorem D2.trans (a : D2 p d H H1) (b : D2 p d H1 H2) : D2 p d H H2 := ⟨fun x o e => by
  obtain ⟨h1, h2⟩ := wo_get e
  exact b.s _ _ (by rw [wo_out h2]; exact a.s _ _ e), b.pot⟩
end
theorem cor_ex {l : List Str} {c : Str} (h : c ∈ l) : ∃ A B, c ∉ A ∧ l = (A ++ [c]) ++ B := by
  induction l with
  | nil => cases h
  | cons x l ih =>
    by_cases e : c = x
    · exact ⟨[], l, by simp, by rw [e]; rfl⟩
    · obtain ⟨A, B, h1, h2⟩ := ih ((List.mem_cons.mp h).resolve_left e)
      exact ⟨x :: A, B, by simp [e, h1], by rw [h2]; rfl⟩
theorem idx_uniq' {l : List Str} (hn : l.Nodup) {i j : Nat} {x : Str} (h1 : l[i]? = some x) (h2 : l[j]? = some x) : i = j := by
  obtain ⟨a1, a2⟩ := List.getElem?_eq_some_iff.mp h1
  obtain ⟨b1, b2⟩ := List.getElem?_eq_some_iff.mp h2
  exact (List.getElem_inj hn).mp (a2.trans b2.symm)
/-- rows begun with another one, in another order -/
def RotR (a b : Row) : Prop := a.1 = b.1 ∧ ∃ L M, b.2 = L ++ M ∧ a.2 = M ++ L
def Rot (rows W : List Row) : Prop := ∃ ws, rows.Perm ws ∧ Paired RotR ws W
theorem rot_keys : ∀ {ws W : List Row}, Paired RotR ws W → vsf ws = vsf W
  | _, _, .nil => rfl
  | _, _, .cons (a := a) (b := b) h t => by
    show a.1 :: vsf _ = b.1 :: vsf _
    rw [h.1, rot_keys t]
theorem rot_get : ∀ {ws W : List Row}, Paired RotR ws W → ∀ {v : Str}, v ∈ vsf W → ∃ L M, rdf W v = L ++ M ∧ rdf ws v = M ++ L
  | _, _, .nil, v, hv => (nomatch hv)
  | _, _, .cons (a := a) (b := b) h t, v, hv => by
    rw [rdf_cons, rdf_cons, h.1]
    by_cases e : b.1 = v
    · rw [if_pos e, if_pos e]; exact h.2
    · rw [if_neg e, if_neg e]
      exact rot_get t ((List.mem_cons.mp hv).resolve_left fun q => e q.symm)
theorem rdf_perm {rows ws : List Row} (h : rows.Perm ws) (hn : (vsf rows).Nodup) (v : Str) : rdf rows v = rdf ws v := by
  have hn2 : (vsf ws).Nodup := (h.map _).nodup_iff.mp hn
  by_cases hv : v ∈ vsf rows
  · obtain ⟨r, hr, e⟩ := List.mem_map.mp hv
    rw [← e, rdf_of hn hr, rdf_of hn2 (h.mem_iff.mp hr)]
  · have hv2 : v ∉ vsf ws := fun q => hv ((h.map _).mem_iff.mpr q)
    have out : ∀ {rows : List Row}, v ∉ vsf rows → rdf rows v = [] := by
      intro rows
      induction rows with
      | nil => intro _; rfl
      | cons a t ih =>
        intro q
        rw [rdf_cons, if_neg (fun z => q (by rw [← z]; exact List.mem_cons_self))]
        exact ih fun z => q (List.mem_cons_of_mem _ z)
    rw [out hv, out hv2]
theorem Rot.vs {rows W : List Row} (h : Rot rows W) : (vsf rows).Perm (vsf W) := by
  obtain ⟨ws, h1, h2⟩ := h
  rw [← rot_keys h2]
  exact h1.map _
theorem Rot.rd {rows W : List Row} (h : Rot rows W) (hn : (vsf W).Nodup) {v : Str} (hv : v ∈ vsf W) : ∃ L M, rdf W v = L ++ M ∧ rdf rows v = M ++ L := by
  have hn2 := h.vs.nodup_iff.mpr hn
  obtain ⟨ws, h1, h2⟩ := h
  rw [rdf_perm h1 hn2]
  exact rot_get h2 hv
theorem Rot.ok {rows W : List Row} (h : Rot rows W) (pl : Pl (vsf W) (rdf W)) (hnm : ∀ v ∈ vsf W, Nm v) (hl : W.length ≤ 60) : RowsOk rows := by
  refine ⟨fun v hv => hnm v (h.vs.mem_iff.mp hv), ?_, ?_⟩
  · refine Pl.named id pl (fun x _ y _ e => e) (by rw [List.map_id]; exact h.vs) fun v hv => ?_
    rw [List.map_id]
    exact h.rd pl.wf.nd hv
  · have := h.vs.length_eq
    rw [List.length_map, List.length_map] at this
    omega
theorem Rot.ins {rows W : List Row} {a b : Row} (h : Rot rows W) (r : RotR a b) (j : Nat) : Rot (rows.take j ++ [a] ++ rows.drop j) (W ++ [b]) := by
  obtain ⟨ws, h1, h2⟩ := h
  refine ⟨ws ++ [a], ?_, paired_snoc h2 r⟩
  have e : (rows.take j ++ [a] ++ rows.drop j).Perm (a :: rows) := by
    rw [List.append_assoc, List.singleton_append]
    refine List.perm_middle.trans ?_
    rw [List.take_append_drop]
  exact e.trans ((List.Perm.cons a h1).trans (List.perm_append_singleton a ws).symm)
theorem RdsAt.getS {K : PySem.W.Frag} {G : Hp} {d : Addr} {rows : List Row} {v : Str} (h : RdsAt K G d rows) (hv : v ∈ vsf rows) : ∃ a, LS K G a (rdf rows v) ∧ ∀ H, Same G H → DGet H d (.str v) (some (.ref a)) := by
  obtain ⟨kvs, h1, h2⟩ := h
  obtain ⟨a, e1, e2⟩ := rowKV_get h2 hv
  exact ⟨a, e2, fun H s => .inl ⟨kvs, Sum.inr v, h1.imp (s _ _) (fun ⟨o, e⟩ => ⟨o, s _ _ e⟩), rfl, e1.symm⟩⟩
theorem valV_at : ∀ {kvs : List (Key × V)} {ks : List Str} {i : Nat} {k : Str} {v : V}, kvs.map (·.1) = ks.map Sum.inr → ks.Nodup → kvs[i]? = some (Sum.inr k, v) → valV kvs (Sum.inr k) = some v
  | [], _, i, k, v, _, _, h => by simp at h
  | kv :: kvs, ks, i, k, v, e, hn, h => by
    cases ks with
    | nil => simp at e
    | cons x ks =>
      rw [List.map_cons, List.map_cons] at e
      injection e with e1 e2
      obtain ⟨h1, h2⟩ := List.nodup_cons.mp hn
      cases i with
      | zero =>
        simp at h
        subst h
        exact valV_pos rfl
      | succ i =>
        have h' : kvs[i]? = some (Sum.inr k, v) := by simpa using h
        have hk : (Sum.inr k : Key) ∈ ks.map Sum.inr := by
          rw [← e2]
          exact List.mem_map.mpr ⟨_, List.mem_of_getElem? h', rfl⟩
        obtain ⟨k', hk', ek⟩ := List.mem_map.mp hk
        have ek : k' = k := Sum.inr.inj ek
        rw [valV_neg (by rw [e1]; exact fun q => h1 (by rw [Sum.inr.inj q, ← ek]; exact hk'))]
        exact valV_at e2 h2 h'
end Five
end
section
namespace Five
open PySem PySem.Spec PyProof.Rows L2
section
variable {α : Type} [DecidableEq α]
/-! a web seen in a mirror -/
theorem nx_rev {l : List α} {x : α} (hn : l.Nodup) (hx : x ∈ l) : nx l.reverse (nx l x) = x := by
  obtain ⟨A, B, rfl, hA⟩ := mem_split hx
  rw [nx_app hA]
  cases B with
  | cons y B =>
    show nx _ y = x
    have e : (A ++ x :: y :: B).reverse = B.reverse ++ y :: (x :: A.reverse) := by simp
    have hy : y ∉ B.reverse := fun q => by
      rw [List.nodup_append] at hn
      have := hn.2.1
      rw [List.nodup_cons, List.nodup_cons] at this
      exact this.2.1 (List.mem_reverse.mp q)
    rw [e, nx_app hy]
    rfl
  | nil =>
    cases A with
    | nil => simp [nx]
    | cons a A =>
      show nx _ a = x
      have e : (a :: A ++ [x]).reverse = (x :: A.reverse) ++ a :: [] := by simp
      have ha : a ∉ x :: A.reverse := fun q => by
        have h1 : (a :: (A ++ [x])).Nodup := hn
        rw [List.nodup_cons] at h1
        refine h1.1 ?_
        rcases List.mem_cons.mp q with z | z
        · rw [z]; simp
        · exact List.mem_append_left _ (List.mem_reverse.mp z)
      rw [e, nx_app ha]
      rfl
theorem path_back {β γ : Type} {f : β → β} {f' : γ → γ} {g : β → γ} : ∀ {s e : β} {r : List β}, (∀ x ∈ s :: r, f' (g (f x)) = g x) → Path f s r e → Path f' (g e) (r.map g).reverse (g s)
  | s, e, [], h, p => by
    have p : f s = e := p
    show f' (g e) = g s
    rw [← p]
    exact h s (by simp)
  | s, e, t :: r, h, p => by
    obtain ⟨p1, p2⟩ := p
    have ih := path_back (fun x hx => h x (List.mem_cons_of_mem _ hx)) p2
    rw [List.map_cons, List.reverse_cons]
    refine path_app.mpr ⟨ih, ?_⟩
    show f' (g t) = g s
    rw [← p1]
    exact h s (by simp)
theorem cyc_back {β γ : Type} {f : β → β} {f' : γ → γ} {g : β → γ} {c : List β} (h : ∀ x ∈ c, f' (g (f x)) = g x) (p : Cyc f c) : Cyc f' (c.map g).reverse := by
  cases c with
  | nil => exact p.elim
  | cons s r =>
    rw [List.map_cons, List.reverse_cons]
    refine cyc_rot (A := [g s]) (B := (r.map g).reverse) ?_
    show Path f' (g s) (r.map g).reverse (g s)
    exact path_back h p
theorem Pl.mirror {vs : List α} {rd rd' : α → List α} (h : Pl vs rd) (hr : ∀ v ∈ vs, rd' v = (rd v).reverse) : Pl vs rd' := by
  obtain ⟨cs, ps, F, Cd, eu⟩ := h.flat
  have w := h.wf
  have mr : ∀ v ∈ vs, ∀ u, (u ∈ rd' v ↔ u ∈ rd v) := fun v hv u => by rw [hr v hv, List.mem_reverse]
  have w' : Wf vs rd' := ⟨w.nd, fun v hv => by rw [hr v hv]; exact (List.reverse_perm _).nodup_iff.mpr (w.rn v hv), fun v hv u hu => by
    obtain ⟨a, b, c⟩ := w.ties v hv u ((mr v hv u).mp hu)
    exact ⟨a, b, (mr u a v).mpr c⟩⟩
  have hsub : ∀ c ∈ ps, ∀ v ∈ c, v ∈ vs := fun c hc v hv => Cd.perm.mem_iff.mp (List.mem_flatten.mpr ⟨c, hc, hv⟩)
  have md : ∀ s : α × α, s ∈ darts vs rd' ↔ s ∈ darts vs rd := fun s => by
    rw [mem_darts, mem_darts]
    constructor
    · exact fun ⟨a, b⟩ => ⟨a, (mr _ a _).mp b⟩
    · exact fun ⟨a, b⟩ => ⟨a, (mr _ a _).mpr b⟩
  have ms : ∀ s : α × α, s ∈ darts vs rd → (s.2, s.1) ∈ darts vs rd := fun s hs => by
    obtain ⟨a, b⟩ := mem_darts.mp hs
    obtain ⟨c, _, d⟩ := w.ties _ a _ b
    exact mem_darts.mpr ⟨c, d⟩
  have nd0 := darts_nodup w.nd w.rn
  refine ⟨w', cs.map (fun c => (c.map fun s => (s.2, s.1)).reverse), ps, ⟨?_, fun c hc => ?_⟩, ⟨Cd.perm, fun c hc v hv u hu => Cd.shut c hc v hv u ((mr v (hsub c hc v hv) u).mp hu), fun c hc => ⟨(Cd.conn c hc).1, fun S hS => (Cd.conn c hc).2 S fun v u hv sv hu => hS v u hv sv ((mr v (hsub c hc v hv) u).mpr hu)⟩⟩, fun c hc => ?_⟩
  · have e1 : ∀ cs : List (List (α × α)), (cs.map (fun c => (c.map fun s => (s.2, s.1)).reverse)).flatten.Perm (cs.flatten.map fun s => (s.2, s.1)) := by
      intro cs
      induction cs with
      | nil => simp
      | cons c r ih =>
        rw [List.map_cons, List.flatten_cons, List.flatten_cons, List.map_append]
        exact (List.reverse_perm _).append ih
    refine (e1 cs).trans ((F.perm.map _).trans ?_)
    refine perm_of_mem ?_ (darts_nodup w'.nd w'.rn) fun s => ?_
    · refine List.Pairwise.map _ ?_ nd0
      intro a b hab e
      injection e with e1 e2
      exact hab (Prod.ext e2 e1)
    · rw [md, List.mem_map]
      constructor
      · rintro ⟨t, ht, rfl⟩
        exact ms t ht
      · exact fun q => ⟨(s.2, s.1), ms s q, rfl⟩
  · obtain ⟨c0, hc0, rfl⟩ := List.mem_map.mp hc
    refine cyc_back (fun x hx => ?_) (F.cyc c0 hc0)
    obtain ⟨a, b⟩ := mem_darts.mp (fd_in F hc0 hx)
    obtain ⟨c1, _, c2⟩ := w.ties _ a _ b
    show (x.2, nx (rd' x.2) (nx (rd x.2) x.1)) = (x.2, x.1)
    rw [hr x.2 c1, nx_rev (w.rn x.2 c1) c2]
  · have e1 : nfc (cs.map fun c => (c.map fun s => (s.2, s.1)).reverse) c = nfc cs c := by
      unfold nfc
      rw [List.countP_map]
      refine List.countP_congr fun f hf => ?_
      show (((f.map fun s => (s.2, s.1)).reverse.any fun s => decide (s.1 ∈ c)) = true) ↔ (f.any fun s => decide (s.1 ∈ c)) = true
      rw [List.any_reverse, List.any_map, List.any_eq_true, List.any_eq_true]
      constructor
      · rintro ⟨s, h1, h2⟩
        have h2 : s.2 ∈ c := by simpa using h2
        obtain ⟨a, b⟩ := mem_darts.mp (fd_in F hf h1)
        exact ⟨s, h1, by simpa using Cd.shut c hc s.2 h2 s.1 (w.ties _ a _ b).2.2⟩
      · rintro ⟨s, h1, h2⟩
        have h2 : s.1 ∈ c := by simpa using h2
        obtain ⟨a, b⟩ := mem_darts.mp (fd_in F hf h1)
        exact ⟨s, h1, by simpa using Cd.shut c hc s.1 h2 s.2 b⟩
    have e2 : nlone rd' c = nlone rd c := by
      unfold nlone
      refine List.countP_congr fun v hv => ?_
      rw [hr v (hsub c hc v hv)]
      simp
    have e3 : deg rd' c = deg rd c := by
      unfold deg
      congr 1
      refine List.map_congr_left fun v hv => ?_
      rw [hr v (hsub c hc v hv), List.length_reverse]
    rw [e1, e2, e3]
    exact eu c hc
end
/-! names exchanged -/
def nameOf (vs row : List Str) (v : Str) : Str := ((vs.zip row).find? fun p => decide (p.1 = v)).elim v (·.2)
theorem nameOf_at {vs row : List Str} (hn : vs.Nodup) {i : Nat} {v u : Str} (h1 : vs[i]? = some v) (h2 : row[i]? = some u) : nameOf vs row v = u := by
  unfold nameOf
  induction vs generalizing row i with
  | nil => cases h1
  | cons a vs ih =>
    cases row with
    | nil => cases h2
    | cons b row =>
      obtain ⟨n1, n2⟩ := List.nodup_cons.mp hn
      rw [List.zip_cons_cons, List.find?_cons]
      cases i with
      | zero =>
        have e1 : a = v := by simpa using h1
        have e2 : b = u := by simpa using h2
        rw [show decide ((a, b).1 = v) = true by simp [e1]]
        exact e2
      | succ i =>
        have h1 : vs[i]? = some v := by simpa using h1
        have e1 : a ≠ v := fun e => n1 (by rw [e]; exact List.mem_of_getElem? h1)
        rw [show decide ((a, b).1 = v) = false by simp [e1]]
        exact ih n2 h1 (by simpa using h2)
theorem map_nameOf {vs row : List Str} (hn : vs.Nodup) (hl : row.length = vs.length) : vs.map (nameOf vs row) = row := by
  refine List.ext_getElem? fun i => ?_
  rw [List.getElem?_map]
  cases q : vs[i]? with
  | none =>
    rw [List.getElem?_eq_none_iff] at q
    rw [List.getElem?_eq_none (by omega)]
    rfl
  | some v =>
    have hi := (List.getElem?_eq_some_iff.mp q).1
    rw [Option.map_some, nameOf_at hn q (List.getElem?_eq_getElem (by omega)), List.getElem?_eq_getElem (by omega)]
theorem nameOf_inj {vs row : List Str} (hn : vs.Nodup) (hr : row.Nodup) (hl : row.length = vs.length) : ∀ x ∈ vs, ∀ y ∈ vs, nameOf vs row x = nameOf vs row y → x = y := by
  intro x hx y hy e
  obtain ⟨i, hi⟩ := List.getElem?_of_mem hx
  obtain ⟨j, hj⟩ := List.getElem?_of_mem hy
  have hi' := (List.getElem?_eq_some_iff.mp hi).1
  have hj' := (List.getElem?_eq_some_iff.mp hj).1
  rw [nameOf_at hn hi (List.getElem?_eq_getElem (by omega)), nameOf_at hn hj (List.getElem?_eq_getElem (by omega))] at e
  have := (List.getElem_inj hr).mp e
  subst this
  rw [hi] at hj
  exact Option.some.inj hj
def renR (W : List Row) (row : List Str) : List Row := W.map fun r => (nameOf (vsf W) row r.1, r.2.map (nameOf (vsf W) row))
theorem vsf_ren {W : List Row} {row : List Str} (hn : (vsf W).Nodup) (hl : row.length = W.length) : vsf (renR W row) = row := by
  have := map_nameOf (vs := vsf W) (row := row) hn (by rw [List.length_map]; exact hl)
  refine Eq.trans ?_ this
  show (W.map _).map _ = (W.map _).map _
  rw [List.map_map, List.map_map]
  rfl
theorem pl_ren {W : List Row} {row : List Str} (pl : Pl (vsf W) (rdf W)) (hp : row.Perm (vsf W)) : Pl (vsf (renR W row)) (rdf (renR W row)) := by
  have hn := pl.wf.nd
  have hl : row.length = (vsf W).length := hp.length_eq
  have hl2 : row.length = W.length := by rw [hl, List.length_map]
  have hrn := hp.nodup_iff.mpr hn
  have inj := nameOf_inj hn hrn hl
  have hvs := vsf_ren hn hl2
  refine Pl.named (nameOf (vsf W) row) pl inj (by rw [hvs, map_nameOf hn hl]) fun v hv => ⟨(rdf W v).map (nameOf (vsf W) row), [], by simp, ?_⟩
  obtain ⟨r, hr, e⟩ := List.mem_map.mp hv
  have e : r.1 = v := e
  subst e
  have hm : (nameOf (vsf W) row r.1, r.2.map (nameOf (vsf W) row)) ∈ renR W row := List.mem_map.mpr ⟨r, hr, rfl⟩
  have := rdf_of (by rw [hvs]; exact hrn) hm
  rw [rdf_of hn hr]
  simpa using this
end Five
end
section
namespace Five
open PySem PySem.Spec PyProof.Rows L2
open PySem.W (Datum DatumOrd)
theorem pl_web {rows : List Row} (pl : Pl (vsf rows) (rdf rows)) : Pl (vsf (webRows rows)) (rdf (webRows rows)) := by
  refine Pl.named id pl (fun x _ y _ e => e) (by rw [List.map_id, vsf_web]; exact srt_perm _) fun v hv => ?_
  obtain ⟨L, M, e1, e2⟩ := fl_perm (rdf rows v)
  exact ⟨L, M, by rw [List.map_id]; exact e1, by show rdf (webRows rows) v = _; rw [rdf_web hv]; exact e2⟩
def revR (rows : List Row) : List Row := rows.map fun r => (r.1, r.2.reverse)
theorem vsf_revR (rows : List Row) : vsf (revR rows) = vsf rows := by
  unfold revR vsf
  rw [List.map_map]
  rfl
theorem rdf_revR (rows : List Row) (v : Str) : rdf (revR rows) v = (rdf rows v).reverse := by
  induction rows with
  | nil => rfl
  | cons r rows ih =>
    show rdf ((r.1, r.2.reverse) :: revR rows) v = _
    rw [rdf_cons, rdf_cons, ih]
    split <;> rfl
theorem RowsOk.rev {rows : List Row} (h : RowsOk rows) : RowsOk (revR rows) := by
  refine ⟨by rw [vsf_revR]; exact h.nm, ?_, by unfold revR; rw [List.length_map]; exact h.len⟩
  rw [vsf_revR]
  exact h.pl.mirror fun v _ => rdf_revR rows v
theorem RowsOk.web {rows : List Row} (h : RowsOk rows) : RowsOk (webRows rows) :=
  ⟨fun v hv => h.nm v (vsf_web_mem.mp hv), pl_web h.pl, by rw [web_len]; exact h.len⟩
theorem revR_eta {W : List Row} (hn : (vsf W).Nodup) : (vsf W).map (fun v => (v, (rdf W v).reverse)) = revR W := by
  have e : revR W = ((vsf W).map fun v => (v, rdf W v)).map fun r => (r.1, r.2.reverse) := by
    rw [rows_eta hn]
    rfl
  rw [e]
  exact (List.map_map (f := fun v => (v, rdf W v)) (g := fun r : Row => (r.1, r.2.reverse)) (l := vsf W)).symm
/-- a web's rounds are those of its rows, begun elsewhere -/
theorem web_isrot {rows : List Row} (v : Str) : ∃ X Y, rdf rows v = X ++ Y ∧ rdf (webRows rows) v = Y ++ X := by
  by_cases h : v ∈ vsf rows
  · obtain ⟨L, M, e1, e2⟩ := fl_perm (rdf rows v)
    exact ⟨L, M, e1, by rw [rdf_web h]; exact e2⟩
  · refine ⟨[], [], ?_, ?_⟩
    · have key : ∀ rows : List Row, v ∉ vsf rows → rdf rows v = [] := by
        intro rows
        induction rows with
        | nil => intro _; rfl
        | cons a t ih =>
          intro q
          rw [rdf_cons, if_neg (fun z => q (by rw [← z]; exact List.mem_cons_self))]
          exact ih fun z => q (List.mem_cons_of_mem _ z)
      rw [key rows h]; rfl
    · have key : ∀ rows : List Row, v ∉ vsf rows → rdf rows v = [] := by
        intro rows
        induction rows with
        | nil => intro _; rfl
        | cons a t ih =>
          intro q
          rw [rdf_cons, if_neg (fun z => q (by rw [← z]; exact List.mem_cons_self))]
          exact ih fun z => q (List.mem_cons_of_mem _ z)
      rw [key _ (fun z => h (vsf_web_mem.mp z))]; rfl
end Five
end
section
namespace Five
open PySem PySem.Spec PyProof.Rows L2
open PySem.W (Datum DatumOrd)
theorem fl_rot {l L M : List Str} (hn : l.Nodup) (e : l = L ++ M) : fl (M ++ L) = fl l := by
  cases hl : l with
  | nil =>
    rw [hl] at e
    have : L = [] ∧ M = [] := by simpa using e.symm
    rw [this.1, this.2]; rfl
  | cons x r =>
    have hne : l ≠ [] := by rw [hl]; simp
    rw [← hl]
    have hp : l.Perm (M ++ L) := by rw [e]; exact List.perm_append_comm
    have hne2 : M ++ L ≠ [] := fun q => hne (by rw [q] at hp; exact hp.eq_nil)
    obtain ⟨m, m1, m2⟩ : ∃ m, m ∈ l ∧ ∀ y ∈ l, ¬ y.cps.toList < m.cps.toList := ⟨_, by rw [hl]; exact minS_is r x⟩
    -- both begin with the least
    obtain ⟨A, B, e1, hA⟩ := mem_split m1
    have f1 : fl l = m :: B ++ A := by
      have h1 : l[A.length]? = some (m) := by rw [e1]; simp
      have h2 : ∀ i z, i < A.length → l[i]? = some z → z ≠ m := fun i z hi hz q => by
        rw [e1, List.getElem?_append_left hi, q] at hz
        exact hA (List.mem_of_getElem? hz)
      rw [fl_of hne m1 m2 h1 h2]
      conv => lhs; rw [e1]
      simp
    have m1' := hp.mem_iff.mp m1
    obtain ⟨A', B', e2, hA'⟩ := mem_split m1'
    have f2 : fl (M ++ L) = m :: B' ++ A' := by
      have h1 : (M ++ L)[A'.length]? = some (m) := by rw [e2]; simp
      have h2 : ∀ i z, i < A'.length → (M ++ L)[i]? = some z → z ≠ m := fun i z hi hz q => by
        rw [e2, List.getElem?_append_left hi, q] at hz
        exact hA' (List.mem_of_getElem? hz)
      rw [fl_of hne2 m1' (fun y hy => m2 y (hp.mem_iff.mpr hy)) h1 h2]
      conv => lhs; rw [e2]
      simp
    rw [f1, f2]
    -- l = L ++ M = A ++ m :: B, M ++ L = A' ++ m :: B'
    have hml : m ∈ L ++ M := by rw [← e]; exact m1
    have hB : m ∉ B := by
      rw [e1] at hn
      have := (List.nodup_append.mp hn).2.1
      exact (List.nodup_cons.mp this).1
    have hn2 : (L ++ M).Nodup := by rw [← e]; exact hn
    rcases List.mem_append.mp hml with q | q
    · obtain ⟨L1, L2, eL, hL1⟩ := mem_split q
      have hmM : m ∉ M := fun z => (List.nodup_append.mp hn2).2.2 m q m z rfl
      have z1 : A ++ m :: B = L1 ++ m :: (L2 ++ M) := by rw [← e1, e, eL]; simp
      obtain ⟨rfl, rfl⟩ := app_uniq z1 hA hB
      have z2 : A' ++ m :: B' = (M ++ A) ++ m :: L2 := by rw [← e2, eL]; simp
      have hB' : m ∉ B' := by
        have hn3 : (M ++ L).Nodup := hp.nodup_iff.mp hn
        rw [e2] at hn3
        exact (List.nodup_cons.mp (List.nodup_append.mp hn3).2.1).1
      obtain ⟨rfl, rfl⟩ := app_uniq z2 hA' hB'
      simp
    · obtain ⟨M1, M2, eM, hM1⟩ := mem_split q
      have z1 : A ++ m :: B = (L ++ M1) ++ m :: M2 := by rw [← e1, e, eM]; simp
      obtain ⟨rfl, rfl⟩ := app_uniq z1 hA hB
      have z2 : A' ++ m :: B' = M1 ++ m :: (B ++ L) := by rw [← e2, eM]; simp
      have hB' : m ∉ B' := by
        have hn3 : (M ++ L).Nodup := hp.nodup_iff.mp hn
        rw [e2] at hn3
        exact (List.nodup_cons.mp (List.nodup_append.mp hn3).2.1).1
      obtain ⟨rfl, rfl⟩ := app_uniq z2 hA' hB'
      simp
theorem web_rot {rows W : List Row} (h : Rot rows W) (hn : (vsf W).Nodup) (hr : ∀ v ∈ vsf W, (rdf W v).Nodup) : webRows rows = (srt (vsf W)).map fun v => (v, fl (rdf W v)) := by
  unfold webRows
  rw [srt_congr h.vs]
  refine List.map_congr_left fun v hv => ?_
  have hv' : v ∈ vsf W := srt_mem.mp hv
  obtain ⟨L, M, e1, e2⟩ := h.rd hn hv'
  rw [e2, fl_rot (hr v hv') e1]
end Five
end
section
namespace Five
open PySem PySem.Spec PyProof.Rows L2
/-! of Q0, for laws without V0 -/
theorem op_neDK {X : Cx} {K : PySem.W.Frag} (hu : X.A.units + 64 < cLine) (hK : X.K = K := by rfl) : OpR X (compareOp .NotEq) (rNeD K) := by subst hK; exact op_neD hu
theorem op_eqDK {X : Cx} {K : PySem.W.Frag} (hu : X.A.units + 64 < cLine) (hK : X.K = K := by rfl) : OpR X (compareOp .Eq) (rEqD K) := by subst hK; exact op_eqD hu
end Five
end
section
namespace Five
open PySem PySem.Spec PyProof.Rows L2
open PySem.W (Datum DatumOrd)
/-! rows of a web that need not be flat -/
structure RowsW (rows : List Row) : Prop where
  nm : ∀ v ∈ vsf rows, Nm v
  wf : Wf (vsf rows) (rdf rows)
  len : rows.length ≤ 60
theorem RowsOk.w {rows : List Row} (h : RowsOk rows) : RowsW rows := ⟨h.nm, h.pl.wf, h.len⟩
theorem RowsW.row {rows : List Row} (h : RowsW rows) {r : Row} (hr : r ∈ rows) : r.1 ∈ vsf rows ∧ rdf rows r.1 = r.2 ∧ r.2.Nodup ∧ (∀ x ∈ r.2, x ∈ vsf rows ∧ x ≠ r.1 ∧ r.1 ∈ rdf rows x) ∧ r.2.length ≤ 60 := by
  have h1 : r.1 ∈ vsf rows := List.mem_map.mpr ⟨r, hr, rfl⟩
  have e := rdf_of h.wf.nd hr
  have h2 := h.wf.rn r.1 h1
  have h3 := h.wf.ties r.1 h1
  rw [e] at h2 h3
  refine ⟨h1, e, h2, h3, Nat.le_trans (nodup_le h2 fun x hx => (h3 x hx).1) ?_⟩
  rw [List.length_map]; exact h.len
theorem Wf.named {α β : Type} [DecidableEq α] [DecidableEq β] {vs : List α} {rd : α → List α} {vs' : List β} {rd' : β → List β} (g : α → β) (h : Wf vs rd) (hg : ∀ x ∈ vs, ∀ y ∈ vs, g x = g y → x = y) (hv : vs'.Perm (vs.map g))
    (hr : ∀ v ∈ vs, ∃ L M, (rd v).map g = L ++ M ∧ rd' (g v) = M ++ L) : Wf vs' rd' := by
  have nodup_map : ∀ (l : List α), l.Nodup → (∀ x ∈ l, x ∈ vs) → (l.map g).Nodup := by
    intro l
    induction l with
    | nil => intro _ _; simp
    | cons a r ih =>
      intro hn hs
      obtain ⟨h1, h2⟩ := List.nodup_cons.mp hn
      rw [List.map_cons]
      refine List.nodup_cons.mpr ⟨fun q => ?_, ih h2 fun x hx => hs x (List.mem_cons_of_mem _ hx)⟩
      obtain ⟨y, hy, e⟩ := List.mem_map.mp q
      have := hg y (hs y (List.mem_cons_of_mem _ hy)) a (hs a (by simp)) e
      rw [this] at hy
      exact h1 hy
  have pr : ∀ v ∈ vs, (rd' (g v)).Perm ((rd v).map g) := fun v hv => by
    obtain ⟨L, M, e1, e2⟩ := hr v hv
    rw [e1, e2]
    exact List.perm_append_comm
  have mr : ∀ v ∈ vs, ∀ u ∈ vs, (g u ∈ rd' (g v) ↔ u ∈ rd v) := fun v hv u hu => by
    rw [(pr v hv).mem_iff, List.mem_map]
    constructor
    · rintro ⟨y, hy, e⟩
      rw [← hg y (h.ties v hv y hy).1 u hu e]
      exact hy
    · exact fun q => ⟨u, q, rfl⟩
  have rnd : ∀ v ∈ vs, ((rd v).map g).Nodup := fun v hv => nodup_map _ (h.rn v hv) fun x hx => (h.ties v hv x hx).1
  have mv : ∀ x, x ∈ vs' ↔ ∃ v ∈ vs, g v = x := fun x => by rw [hv.mem_iff, List.mem_map]
  refine ⟨hv.nodup_iff.mpr (nodup_map _ h.nd fun _ q => q), fun x hx => ?_, fun x hx u hu => ?_⟩
  · obtain ⟨v, hvv, rfl⟩ := (mv x).mp hx
    exact (pr v hvv).nodup_iff.mpr (rnd v hvv)
  · obtain ⟨v, hvv, rfl⟩ := (mv x).mp hx
    obtain ⟨y, hy, rfl⟩ := List.mem_map.mp ((pr v hvv).mem_iff.mp hu)
    obtain ⟨a, b, c⟩ := h.ties v hvv y hy
    exact ⟨(mv _).mpr ⟨y, a, rfl⟩, fun e => b (hg y a v hvv e), (mr y a v hvv).mpr c⟩
theorem RowsAre.okw {names : List Str} {rds : List (List Int)} {rws rows : List Row} (h : RowsAre names rds rds.length rws) (hp : rows.Perm rws) (hl : names.length = rds.length) (hn : names.Nodup) (hnm : ∀ x ∈ names, Nm x) (wf : Wf (vsI rds.length) (rdI rds)) (h60 : rds.length ≤ 60) : RowsW rows := by
  have hv : (vsf rws) = names := by
    rw [← gN_map (names := names), hl]
    refine List.ext_getElem? fun i => ?_
    rw [List.getElem?_map, List.getElem?_map]
    unfold vsI
    rw [List.getElem?_map]
    by_cases hi : i < rds.length
    · obtain ⟨far, e⟩ := h.2 i hi
      rw [e, List.getElem?_range hi]
      rfl
    · rw [List.getElem?_eq_none (by rw [h.1]; omega), List.getElem?_eq_none (by simpa using hi)]
      rfl
  have hvp : (vsf rows).Perm names := by rw [← hv]; exact hp.map _
  have hnd : (vsf rows).Nodup := hvp.nodup_iff.mpr hn
  refine ⟨fun v hv' => hnm v (hvp.mem_iff.mp hv'), ?_, by rw [hp.length_eq, h.1]; exact h60⟩
  refine Wf.named (gN names) wf (fun x hx y hy e => gN_inj hn (by rw [hl]; exact hx) (by rw [hl]; exact hy) e) ?_ fun v hv' => ?_
  · have := gN_map (names := names)
    rw [hl] at this
    rw [this]
    exact hvp
  · obtain ⟨h1, h2⟩ := mem_vsI.mp hv'
    obtain ⟨far, e⟩ := h.2 v.toNat (by omega)
    have ev : ((v.toNat : Nat) : Int) = v := by omega
    rw [ev] at e
    have hm := hp.mem_iff.mpr (List.mem_of_getElem? e)
    have := rdf_of hnd hm
    exact ⟨_, _, (List.take_append_drop far _).symm, this⟩
section
variable {α : Type} [DecidableEq α] {vs : List α} {rd rd' : α → List α} {o t : α}
theorem Wf.re (h : Wf vs rd) (hm : ∀ v ∈ vs, (rd' v).Perm (rd v)) : Wf vs rd' :=
  ⟨h.nd, fun v hv => (hm v hv).nodup_iff.mpr (h.rn v hv), fun v hv u hu => by
    obtain ⟨a, b, c⟩ := h.ties v hv u ((hm v hv).mem_iff.mp hu)
    exact ⟨a, b, (hm u a).mem_iff.mpr c⟩⟩
theorem Wf.addT (h : Wf vs rd) (ho : o ∈ vs) (ht : t ∈ vs) (ne : o ≠ t) (hn : t ∉ rd o) (h1 : (rd' o).Perm (t :: rd o)) (h2 : (rd' t).Perm (o :: rd t)) (h3 : ∀ v ∈ vs, v ≠ o → v ≠ t → rd' v = rd v) : Wf vs rd' := by
  have hn2 : o ∉ rd t := fun q => hn (h.ties t ht o q).2.2
  have hm : ∀ v ∈ vs, ∀ u, u ∈ rd' v ↔ u ∈ rd v ∨ (v = o ∧ u = t) ∨ (v = t ∧ u = o) := fun v hv u => by
    by_cases c1 : v = o
    · subst c1
      rw [h1.mem_iff, List.mem_cons]
      exact ⟨fun q => q.elim (fun q => .inr (.inl ⟨rfl, q⟩)) .inl, fun q => q.elim .inr fun q => q.elim (fun q => .inl q.2) fun q => absurd q.1 ne⟩
    · by_cases c2 : v = t
      · subst c2
        rw [h2.mem_iff, List.mem_cons]
        exact ⟨fun q => q.elim (fun q => .inr (.inr ⟨rfl, q⟩)) .inl, fun q => q.elim .inr fun q => q.elim (fun q => absurd q.1 c1) fun q => .inl q.2⟩
      · rw [h3 v hv c1 c2]
        exact ⟨.inl, fun q => q.elim id fun q => q.elim (fun q => absurd q.1 c1) fun q => absurd q.1 c2⟩
  refine ⟨h.nd, fun v hv => ?_, fun v hv u hu => ?_⟩
  · by_cases c1 : v = o
    · rw [c1]; exact h1.nodup_iff.mpr (List.nodup_cons.mpr ⟨hn, h.rn o ho⟩)
    · by_cases c2 : v = t
      · rw [c2]; exact h2.nodup_iff.mpr (List.nodup_cons.mpr ⟨hn2, h.rn t ht⟩)
      · rw [h3 v hv c1 c2]; exact h.rn v hv
  · rcases (hm v hv u).mp hu with q | ⟨rfl, rfl⟩ | ⟨rfl, rfl⟩
    · obtain ⟨a, b, c⟩ := h.ties v hv u q
      exact ⟨a, b, (hm u a v).mpr (.inl c)⟩
    · exact ⟨ht, ne.symm, (hm _ ht _).mpr (.inr (.inr ⟨rfl, rfl⟩))⟩
    · exact ⟨ho, ne, (hm _ ho _).mpr (.inr (.inl ⟨rfl, rfl⟩))⟩
theorem Wf.cutT (h : Wf vs rd) (ho : o ∈ vs) (ht : t ∈ vs) (ne : o ≠ t) (h1 : (rd o).Perm (t :: rd' o)) (h2 : (rd t).Perm (o :: rd' t)) (h3 : ∀ v ∈ vs, v ≠ o → v ≠ t → rd' v = rd v) : Wf vs rd' := by
  have n1 := List.nodup_cons.mp (h1.nodup_iff.mp (h.rn o ho))
  have n2 := List.nodup_cons.mp (h2.nodup_iff.mp (h.rn t ht))
  have hm : ∀ v ∈ vs, ∀ u, u ∈ rd' v ↔ u ∈ rd v ∧ ¬ (v = o ∧ u = t) ∧ ¬ (v = t ∧ u = o) := fun v hv u => by
    by_cases c1 : v = o
    · subst c1
      rw [h1.mem_iff, List.mem_cons]
      exact ⟨fun q => ⟨.inr q, fun z => n1.1 (by rw [← z.2]; exact q), fun z => ne z.1⟩, fun q => q.1.resolve_left fun z => q.2.1 ⟨rfl, z⟩⟩
    · by_cases c2 : v = t
      · subst c2
        rw [h2.mem_iff, List.mem_cons]
        exact ⟨fun q => ⟨.inr q, fun z => c1 z.1, fun z => n2.1 (by rw [← z.2]; exact q)⟩, fun q => q.1.resolve_left fun z => q.2.2 ⟨rfl, z⟩⟩
      · rw [h3 v hv c1 c2]
        exact ⟨fun q => ⟨q, fun z => c1 z.1, fun z => c2 z.1⟩, fun q => q.1⟩
  refine ⟨h.nd, fun v hv => ?_, fun v hv u hu => ?_⟩
  · by_cases c1 : v = o
    · rw [c1]; exact n1.2
    · by_cases c2 : v = t
      · rw [c2]; exact n2.2
      · rw [h3 v hv c1 c2]; exact h.rn v hv
  · obtain ⟨q, x, y⟩ := (hm v hv u).mp hu
    obtain ⟨a, b, c⟩ := h.ties v hv u q
    exact ⟨a, b, (hm u a v).mpr ⟨c, fun z => y ⟨z.2, z.1⟩, fun z => x ⟨z.2, z.1⟩⟩⟩
end
theorem ins_perm {α : Type} (l : List α) (i : Nat) (y : α) : (l.take i ++ [y] ++ l.drop i).Perm (y :: l) := by
  have : (l.take i ++ [y] ++ l.drop i) = l.take i ++ y :: l.drop i := by simp
  rw [this]
  refine List.perm_middle.trans ?_
  rw [List.take_append_drop]
theorem erase_permI {α : Type} {l : List α} {k : Nat} {y : α} (h : l[k]? = some y) : l.Perm (y :: l.eraseIdx k) := by
  obtain ⟨h1, h2⟩ := List.getElem?_eq_some_iff.mp h
  rw [List.eraseIdx_eq_take_drop_succ]
  conv => lhs; rw [← List.take_append_drop k l, List.drop_eq_getElem_cons h1, h2]
  exact List.perm_middle
theorem erase_mapI (l : List Int) (j : Nat) : (l.map V.int).eraseIdx j = (l.eraseIdx j).map V.int := by
  rw [List.eraseIdx_eq_take_drop_succ, List.eraseIdx_eq_take_drop_succ, List.map_append, List.map_take, List.map_drop]
theorem joinW {b : Bool} {A : Prop} {D : Ends} {σ : L2.St} {H : Hp} (Pd : L2.St → Hp → Prop) (hB : b = false → Pd σ H) (hA : b = true → (∀ σ' H', Pd σ' H' → D.nx σ' H') → A) (rest : ∀ σ' H', Pd σ' H' → D.nx σ' H') : if b = true then A else tNext D σ H := by
  cases b
  · exact rest _ _ (hB rfl)
  · exact hA rfl rest
/-- a piece whose places and faces together are not as many as its ties and two -/
def BadP (rd : Str → List Str) (cs : List (List (Str × Str))) (c : List Str) : Prop := c.length + (nfc cs c + nlone rd c) ≠ deg rd c / 2 + 2
def numP (rd : Str → List Str) (cs : List (List (Str × Str))) (c : List Str) : List Int := [(c.length : Int), ((deg rd c / 2 : Nat) : Int), ((nfc cs c + nlone rd c : Nat) : Int)]
theorem numP_perm {rd : Str → List Str} {cs : List (List (Str × Str))} {c c' : List Str} (h : c.Perm c') : c.length = c'.length ∧ deg rd c = deg rd c' ∧ nfc cs c + nlone rd c = nfc cs c' + nlone rd c' := by
  refine ⟨h.length_eq, deg_perm h, ?_⟩
  rw [nfc_same (c := c) (d := c') fun w _ s _ => h.mem_iff, show nlone rd c = nlone rd c' from h.countP_eq _]
theorem badP_perm {rd : Str → List Str} {cs : List (List (Str × Str))} {c c' : List Str} (h : c.Perm c') : BadP rd cs c ↔ BadP rd cs c' := by
  obtain ⟨a, b, d⟩ := numP_perm (rd := rd) (cs := cs) h
  unfold BadP
  rw [a, b, d]
theorem srt_eq {c c' : List Str} (h : srt c = srt c') : c.Perm c' := by
  have := srt_perm c'
  rw [← h] at this
  exact (srt_perm c).symm.trans this
theorem iteNY {c A B : Prop} {inst : Decidable c} (hc : ¬ c) (h : A) : if (!decide c) = true then A else B := by rw [if_pos (by rw [decide_eq_false hc]; rfl)]; exact h
/-- the first of them in the order of the pieces -/
def FstP (rd : Str → List Str) (cs : List (List (Str × Str))) (ps : List (List Str)) (c : List Str) : Prop := c ∈ ps ∧ BadP rd cs c ∧ ∀ c' ∈ ps, DatumOrd.lt (srt c') (srt c) = true → ¬ BadP rd cs c'
/-- the first of them in the order of the places -/
def FstV (vs : List Str) (rd : Str → List Str) (cs : List (List (Str × Str))) (ps : List (List Str)) (c : List Str) (v : Str) : Prop := c ∈ ps ∧ v ∈ c ∧ BadP rd cs c ∧ ∀ u ∈ vs, DatumOrd.lt u v = true → ∀ c' ∈ ps, u ∈ c' → ¬ BadP rd cs c'
theorem fst_same {vs : List Str} {rd : Str → List Str} {cs : List (List (Str × Str))} {ps : List (List Str)} (nd : vs.Nodup) (cd : CD vs rd ps) {c1 c2 : List Str} {v : Str} (h1 : FstP rd cs ps c1) (h2 : FstV vs rd cs ps c2 v) : c1 = c2 := by
  obtain ⟨m1, b1, k1⟩ := h1
  obtain ⟨m2, hv, b2, k2⟩ := h2
  obtain ⟨a1, t1, e1, i1, l1⟩ := srt_head (c := c1) (cd.conn c1 m1).1
  obtain ⟨a2, t2, e2, i2, l2⟩ := srt_head (c := c2) (cd.conn c2 m2).1
  have hin : ∀ {c}, c ∈ ps → ∀ {x}, x ∈ c → x ∈ vs := fun hc _ hx => cd.perm.mem_iff.mp (List.mem_flatten.mpr ⟨_, hc, hx⟩)
  have e3 : a2 = v := by
    cases q : DatumOrd.lt a2 v with
    | true => exact absurd b2 (k2 a2 (hin m2 i2) q c2 m2 i2)
    | false =>
      have h := l2 v hv
      unfold leD at h
      exact lt_tri q (by simpa using h)
  subst e3
  cases q : DatumOrd.lt a1 a2 with
  | true => exact absurd b1 (k2 a1 (hin m1 i1) q c1 m1 i1)
  | false =>
    cases q' : DatumOrd.lt a2 a1 with
    | true =>
      refine absurd b2 (k1 c2 m2 ?_)
      rw [e1, e2]
      exact lt_cons q'
    | false =>
      have e4 := lt_tri q q'
      subst e4
      have hfn : ps.flatten.Nodup := cd.perm.nodup_iff.mpr nd
      exact Classical.byContradiction fun ne => by
        obtain ⟨rest, hp⟩ := perm_head m1
        have hn := (hp.flatten.nodup_iff).mp hfn
        have : c2 ∈ rest := (List.mem_cons.mp (hp.mem_iff.mp m2)).resolve_left fun q => ne q.symm
        exact nodup_flatten_apart hn this i1 i2
end Five
end
section
namespace Five
open PySem PySem.Spec PyProof.Rows L2
open PySem.W (Datum DatumOrd)
/-! rows of any data -/
theorem dpAll_sm {K : PySem.W.Frag} {H H' : Hp} (s : Sm H H') : ∀ {vs : List V} {ds : List PyData}, DpAll K H vs ds → DpAll K H' vs ds := by
  intro vs
  induction vs with
  | nil => intro ds h; cases h; exact .nil
  | cons v vs ih => intro ds h; cases h with
    | cons a b => exact .cons (dp_sm s a) (ih b)
theorem sqL_ty {K : PySem.W.Frag} {H : Hp} {a : Addr} {xs : List V} (h : SqL K H a xs) : TyX K H (.ref a) (.type "list") := by
  rcases h with (h | ⟨o, h⟩) | h
  · exact .base (.lst h)
  · exact .base (.frz h)
  · obtain ⟨o, _, _, e, c, _⟩ := h
    exact .kList e c
theorem sqT_ty {K : PySem.W.Frag} {H : Hp} {a : Addr} {xs : List V} (h : SqT K H a xs) : TyX K H (.ref a) (.type "tuple") := by
  rcases h with (h | ⟨o, h⟩) | h
  · exact .base (.tup h)
  · exact .fTuple h
  · obtain ⟨o, _, _, e, c, _⟩ := h
    exact .kTuple e c
abbrev RowG := PyData × List PyData
def RowD (K : PySem.W.Frag) (H : Hp) (t : Addr) (r : RowG) : Prop := ∃ (b : Addr) (v : V) (vs : List V), H t = some (.tup [v, .ref b]) ∧ Dp K H v r.1 ∧ H b = some (.lst vs) ∧ DpAll K H vs r.2
def DpV (K : PySem.W.Frag) (H : Hp) (v : V) (d : PyData) : Prop := Dp K H v d
variable {K : PySem.W.Frag}
theorem dpAll_pair {H : Hp} : ∀ {vs : List V} {ds : List PyData}, DpAll K H vs ds ↔ Paired (DpV K H) vs ds := by
  intro vs ds
  constructor
  · intro h
    induction vs generalizing ds with
    | nil => cases h; exact .nil
    | cons v vs ih => cases h with
      | cons a b => exact .cons a (ih b)
  · intro h
    induction h with
    | nil => exact .nil
    | cons a b ih => exact .cons a ih
instance : Mn (RowD K) := ⟨fun s ⟨b, v, vs, h1, h2, h3, h4⟩ => ⟨b, v, vs, s.t _ _ trivial h1, dp_sm s h2, s.t _ _ trivial h3, dpAll_sm s h4⟩⟩
def isNmD : PyData → Bool
  | .str x => isNm x
  | _ => false
def okRow (r : RowG) : Bool := isNmD r.1 && r.2.all isNmD
def gD (r : Row) : RowG := (.str r.1, r.2.map PyData.str)
theorem isNmD_str {d : PyData} (h : isNmD d = true) : ∃ x, d = .str x ∧ Nm x := by
  cases d with
  | str x => exact ⟨x, rfl, (isNm_iff x).mp h⟩
  | _ => exact nomatch h
theorem names_of {l : List PyData} (h : l.all isNmD = true) : ∃ xs : List Str, l = xs.map PyData.str ∧ ∀ x ∈ xs, Nm x := by
  induction l with
  | nil => exact ⟨[], rfl, fun x hx => (nomatch hx)⟩
  | cons d r ih =>
    rw [List.all_cons, Bool.and_eq_true] at h
    obtain ⟨x, rfl, hx⟩ := isNmD_str h.1
    obtain ⟨xs, rfl, hxs⟩ := ih h.2
    exact ⟨x :: xs, rfl, fun y hy => (List.mem_cons.mp hy).elim (fun e => e ▸ hx) (hxs y)⟩
/-- rows of names -/
def NmRows (W : List Row) : Prop := ∀ r ∈ W, Nm r.1 ∧ ∀ x ∈ r.2, Nm x
theorem rows_of {rs : List RowG} (h : rs.all okRow = true) : ∃ W : List Row, rs = W.map gD ∧ NmRows W := by
  induction rs with
  | nil => exact ⟨[], rfl, fun x hx => (nomatch hx)⟩
  | cons r rs ih =>
    rw [List.all_cons, Bool.and_eq_true] at h
    have h1 := h.1
    unfold okRow at h1
    rw [Bool.and_eq_true] at h1
    obtain ⟨x, e, hx⟩ := isNmD_str h1.1
    obtain ⟨l, e2, hl⟩ := names_of h1.2
    obtain ⟨W, rfl, hW⟩ := ih h.2
    refine ⟨(x, l) :: W, ?_, fun y hy => (List.mem_cons.mp hy).elim (fun e => by rw [e]; exact ⟨hx, hl⟩) (hW y)⟩
    rw [List.map_cons]
    congr 1
    exact Prod.ext e e2
theorem nm_isNm {x : Str} (h : Nm x) : isNmD (.str x) = true := (isNm_iff x).mpr h
theorem okRow_gD {r : Row} (h : Nm r.1 ∧ ∀ x ∈ r.2, Nm x) : okRow (gD r) = true := by
  unfold okRow gD
  rw [Bool.and_eq_true]
  refine ⟨nm_isNm h.1, List.all_eq_true.mpr fun d hd => ?_⟩
  obtain ⟨x, hx, rfl⟩ := List.mem_map.mp hd
  exact nm_isNm (h.2 x hx)
theorem rowT_gD {H : Hp} {t : Addr} {r : Row} : RowD K H t (gD r) ↔ RowT K H t r := by
  constructor
  · rintro ⟨b, v, vs, h1, h2, h3, h4⟩
    cases h2
    have : ∀ (l : List Str) (vs : List V), DpAll K H vs (l.map PyData.str) → vs = l.map V.str := by
      intro l
      induction l with
      | nil => intro vs h; cases h; rfl
      | cons x l ih => intro vs h; cases h with
        | cons a b => cases a; rw [ih _ b]; rfl
    rw [this _ _ h4] at h3
    exact ⟨b, h1, h3⟩
  · rintro ⟨b, h1, h2⟩
    exact ⟨b, _, _, h1, .str _, h2, dpAll_strs _⟩
theorem paired_gD {H : Hp} {ts : List Addr} {W : List Row} : Paired (RowD K H) ts (W.map gD) ↔ Paired (RowT K H) ts W := by
  constructor
  · intro h
    induction W generalizing ts with
    | nil => cases h; exact .nil
    | cons r W ih => cases h with
      | cons a b => exact .cons (rowT_gD.mp a) (ih b)
  · intro h
    induction h with
    | nil => exact .nil
    | cons a b ih => exact .cons (rowT_gD.mpr a) ih
/-- the first tie that goes one way -/
def oneWay (W : List Row) (p q : Str) : Bool := decide (q = p ∨ q ∉ vsf W ∨ p ∉ rdf W q)
def wayF (W : List Row) : List Row → Option (Str × Str)
  | [] => none
  | r :: rs => match r.2.find? (fun q => oneWay W r.1 q) with
    | some q => some (r.1, q)
    | none => wayF W rs
theorem wayF_none {W : List Row} : ∀ {rs : List Row}, wayF W rs = none → ∀ r ∈ rs, ∀ q ∈ r.2, q ≠ r.1 ∧ q ∈ vsf W ∧ r.1 ∈ rdf W q
  | [], _, r, hr, _, _ => nomatch hr
  | r0 :: rs, h, r, hr, q, hq => by
    unfold wayF at h
    cases e : r0.2.find? (fun q => oneWay W r0.1 q) with
    | some q => rw [e] at h; exact nomatch h
    | none =>
      rw [e] at h
      rcases List.mem_cons.mp hr with z | z
      · subst z
        have := List.find?_eq_none.mp e q hq
        unfold oneWay at this
        have this : ¬ (q = r.1 ∨ q ∉ vsf W ∨ r.1 ∉ rdf W q) := by simpa using this
        exact ⟨fun c => this (.inl c), Classical.byContradiction fun c => this (.inr (.inl c)), Classical.byContradiction fun c => this (.inr (.inr c))⟩
      · exact wayF_none h r z q hq
/-- no place is told twice, no name stands twice in a round -/
def Unlike (W : List Row) : Prop := (vsf W).Nodup ∧ ∀ r ∈ W, r.2.Nodup
theorem wayF_wf {W : List Row} (hn : NmRows W) (hu : Unlike W) (h : wayF W W = none) (hl : W.length ≤ 60) : RowsW W := by
  have hv : ∀ v ∈ vsf W, ∃ r ∈ W, r.1 = v ∧ rdf W v = r.2 := fun v hv => by
    obtain ⟨r, hr, e⟩ := List.mem_map.mp hv
    refine ⟨r, hr, e, ?_⟩
    rw [← e]; exact rdf_of hu.1 hr
  refine ⟨fun v hv' => ?_, ⟨hu.1, fun v hv' => ?_, fun v hv' u hu' => ?_⟩, hl⟩
  · obtain ⟨r, hr, e, _⟩ := hv v hv'
    rw [← e]; exact (hn r hr).1
  · obtain ⟨r, hr, e, e2⟩ := hv v hv'
    rw [e2]; exact hu.2 r hr
  · obtain ⟨r, hr, e, e2⟩ := hv v hv'
    rw [e2] at hu'
    obtain ⟨a, b, c⟩ := wayF_none h r hr u hu'
    rw [e] at a c
    exact ⟨b, a, c⟩
/-- faces and pieces of a web, once for all -/
noncomputable def csW (W : List Row) : List (List (Str × Str)) := Classical.epsilon fun cs => FD (vsf W) (rdf W) cs
noncomputable def psW (W : List Row) : List (List Str) := Classical.epsilon fun ps => CD (vsf W) (rdf W) ps
theorem csW_fd {W : List Row} (wf : Wf (vsf W) (rdf W)) : FD (vsf W) (rdf W) (csW W) := Classical.epsilon_spec (fd_ex wf)
theorem psW_cd {W : List Row} (wf : Wf (vsf W) (rdf W)) : CD (vsf W) (rdf W) (psW W) := Classical.epsilon_spec (cd_ex wf)
def GoodW (W : List Row) : Prop := ∀ c ∈ psW W, ¬ BadP (rdf W) (csW W) c
def unG (r : RowG) : Row := (match r.1 with
  | .str x => x
  | _ => Str.empty, r.2.filterMap fun d => match d with
  | .str x => some x
  | _ => none)
theorem unG_gD (r : Row) : unG (gD r) = r := by
  obtain ⟨x, l⟩ := r
  show (x, (l.map PyData.str).filterMap _) = (x, l)
  congr 1
  induction l with
  | nil => rfl
  | cons y l ih =>
    rw [List.map_cons, List.filterMap_cons]
    exact congrArg (y :: ·) ih
theorem map_unG (W : List Row) : (W.map gD).map unG = W := by
  induction W with
  | nil => rfl
  | cons r W ih => rw [List.map_cons, List.map_cons, unG_gD, ih]
open Classical in
/-- what is told of rows -/
noncomputable def verG (rs : List RowG) : List PyData :=
  if rs.all okRow = true then
    (if Unlike (rs.map unG) then
      (match wayF (rs.map unG) (rs.map unG) with
      | some (p, q) => [.str "way", .str p, .str q]
      | none => if GoodW (rs.map unG) then [.str "made"] else [.str "flat"])
    else [.str "twice"])
  else [.str "name"]
theorem ver_name {rs : List RowG} (h : rs.all okRow = false) : verG rs = [.str "name"] := by
  unfold verG
  rw [if_neg (by rw [h]; exact Bool.false_ne_true)]
theorem all_gD {W : List Row} (h : NmRows W) : (W.map gD).all okRow = true := List.all_eq_true.mpr fun r hr => by
  obtain ⟨q, hq, rfl⟩ := List.mem_map.mp hr
  exact okRow_gD (h q hq)
theorem ver_twice {W : List Row} (h : NmRows W) (hu : ¬ Unlike W) : verG (W.map gD) = [.str "twice"] := by
  unfold verG
  rw [if_pos (all_gD h), map_unG, if_neg hu]
theorem ver_way {W : List Row} (h : NmRows W) (hu : Unlike W) {p q : Str} (e : wayF W W = some (p, q)) : verG (W.map gD) = [.str "way", .str p, .str q] := by
  unfold verG
  rw [if_pos (all_gD h), map_unG, if_pos hu, e]
theorem ver_flat {W : List Row} (h : NmRows W) (hu : Unlike W) (e : wayF W W = none) (g : ¬ GoodW W) : verG (W.map gD) = [.str "flat"] := by
  unfold verG
  rw [if_pos (all_gD h), map_unG, if_pos hu, e]
  exact if_neg g
theorem ver_made {W : List Row} (h : NmRows W) (hu : Unlike W) (e : wayF W W = none) (g : GoodW W) : verG (W.map gD) = [.str "made"] := by
  unfold verG
  rw [if_pos (all_gD h), map_unG, if_pos hu, e]
  exact if_pos g
end Five
end
section
namespace Five
open PySem PySem.Spec PyProof.Rows L2
/-- repr of a truth -/
def rReprB : List V → Hp → VK → Prop := fun xs H Q => ∃ b : Bool, xs = [.bl b] ∧ Q (.str (if b then "True" else "False")) H
theorem call_reprB {X : Cx} : CallR X (.builtin "repr") rReprB := by
  intro pins s σ H xs us Q I r h
  obtain ⟨b, rfl, q⟩ := h
  cases r with
  | cons r1 r2 =>
    cases r2
    cases r1
    exact P.repr_of_bool ⟨.str _, H, I.tok _, ⟨_, rfl⟩, q⟩
theorem shown_bool {a b : Bool} : V.str (if a then "True" else "False") = V.str (if b then "True" else "False") ↔ a = b := by
  cases a <;> cases b <;> constructor <;> intro h <;> first | rfl | cases h | exact absurd (V.str.inj h) (by decide)
end Five
end
section
namespace Five
open PySem PySem.Spec PyProof.Rows L2
open PySem.W (Datum DatumOrd)
/-! hues to be read, locked or not -/
def HuAt (G : Hp) (d : Addr) (hv : List (Str × Int)) : Prop := Rd G d (.dK (dk V.int hv)) ∧ (ks hv).Nodup
instance : Mn HuAt := ⟨fun s ⟨h1, h2⟩ => ⟨s.r _ _ trivial h1, h2⟩⟩
section
variable {G H : Hp} {d : Addr} {hv : List (Str × Int)} {v : Str}
theorem HuAt.of (h : H d = some (.dK (dk V.int hv))) (hn : (ks hv).Nodup) : HuAt H d hv := ⟨.inl h, hn⟩
theorem HuAt.get (h : HuAt H d hv) (hm : v ∈ ks hv) : DGet H d (.str v) (some (.int (hval hv v))) := by
  obtain ⟨⟨a, p⟩, h1, h2⟩ := List.mem_map.mp hm
  cases h2
  rw [hval_of h.2 h1]
  exact .inl ⟨_, Sum.inr a, h.1, rfl, (valV_dk_some h.2 h1).symm⟩
theorem HuAt.no (h : HuAt H d hv) (hm : v ∉ ks hv) : DGet H d (.str v) none := .inl ⟨_, Sum.inr v, h.1, rfl, (valV_dk_none hm).symm⟩
/-- what d.get tells -/
theorem HuAt.get? (h : HuAt H d hv) (v : Str) : DGet H d (.str v) (if v ∈ ks hv then some (.int (hval hv v)) else none) := by
  by_cases c : v ∈ ks hv
  · rw [if_pos c]; exact h.get c
  · rw [if_neg c]; exact h.no c
end
/-! what is come to over places of which ok is true -/
structure ChP (rd : Str → List Str) (ok : Str → Prop) (s : Str) (c : List Str) : Prop where
  nd : c.Nodup
  has : s ∈ c
  shut : ∀ v ∈ c, ∀ u ∈ rd v, ok u → u ∈ c
  least : ∀ S : Str → Prop, S s → (∀ v u, S v → u ∈ rd v → ok u → S u) → ∀ x ∈ c, S x
section
variable {rd rd' : Str → List Str} {ok ok' : Str → Prop} {s : Str} {c c' : List Str}
theorem ChP.perm (h : ChP rd ok s c) (h' : ChP rd ok s c') : c.Perm c' := perm_of_mem h.nd h'.nd fun x =>
  ⟨fun hx => h.least (· ∈ c') h'.has (fun v u hv hu ho => h'.shut v hv u hu ho) x hx, fun hx => h'.least (· ∈ c) h.has (fun v u hv hu ho => h.shut v hv u hu ho) x hx⟩
theorem ChP.congr (h : ChP rd ok s c) (hr : ∀ v ∈ c, ∀ u, u ∈ rd' v ↔ u ∈ rd v) (ho : ∀ u, ok' u ↔ ok u) : ChP rd' ok' s c := by
  refine ⟨h.nd, h.has, fun v hv u hu hk => h.shut v hv u ((hr v hv u).mp hu) ((ho u).mp hk), fun S h0 hS x hx => ?_⟩
  have := h.least (fun y => y ∈ c ∧ S y) ⟨h.has, h0⟩ (fun v u ⟨q1, q2⟩ hu hk => ⟨h.shut v q1 u hu hk, hS v u q2 ((hr v q1 u).mpr hu) ((ho u).mpr hk)⟩) x hx
  exact this.2
theorem ChP.ok_of (h : ChP rd ok s c) {x : Str} (hx : x ∈ c) : x = s ∨ ok x :=
  h.least (fun y => y = s ∨ ok y) (.inl rfl) (fun _ _ _ _ ho => .inr ho) x hx
theorem ChP.sub {vs : List Str} (h : ChP rd ok s c) (hs : s ∈ vs) (hv : ∀ v ∈ vs, ∀ u ∈ rd v, u ∈ vs) {x : Str} (hx : x ∈ c) : x ∈ vs :=
  h.least (· ∈ vs) hs (fun v u q hu _ => hv v q u hu) x hx
end
def okH (hv : List (Str × Int)) (a b : Int) (u : Str) : Prop := u ∈ ks hv ∧ (hval hv u = a ∨ hval hv u = b)
instance (hv : List (Str × Int)) (a b : Int) (u : Str) : Decidable (okH hv a b u) := by unfold okH; infer_instance
theorem inV_two (x a b : Int) : inV (.int x) [.int a, .int b] = decide (x = a ∨ x = b) := by
  rw [show [V.int a, V.int b] = [a, b].map V.int from rfl, inV_int]
  congr 1
  simp
end Five
end
section
namespace Five
open PySem PySem.Spec PyProof.Rows L2
/-! choices as data; how one is read -/
def wyD (h : Int) (e : PyData) : PyData := .tuple [.int h, e]
def tdD (o : Str) : PyData := .tuple [.str "tied", .str o]
def chD (p : Str) (ws : List PyData) : PyData := .tuple [.str p, .list ws]
/-- a choice of depth n at most, or one tied; three ways at most -/
def Wy : Nat → PyData → Prop
  | 0, e => ∃ o, Nm o ∧ e = tdD o
  | n + 1, e => (∃ o, Nm o ∧ e = tdD o) ∨ ∃ p ws, Nm p ∧ e = chD p ws ∧ ws.length ≤ 10 ∧ ∀ w ∈ ws, ∃ h f, w = wyD h f ∧ Wy n f
def Cw (n : Nat) (e : PyData) : Prop := ∃ p ws, Nm p ∧ e = chD p ws ∧ ws.length ≤ 10 ∧ ∀ w ∈ ws, ∃ h f, w = wyD h f ∧ Wy n f
theorem Cw.wy {n : Nat} {e : PyData} (h : Cw n e) : Wy (n + 1) e := .inr h
theorem Wy.succ : ∀ {n : Nat} {e : PyData}, Wy n e → Wy (n + 1) e
  | 0, _, h => .inl h
  | n + 1, e, h => by
    rcases h with h | ⟨p, ws, h1, h2, h3, h4⟩
    · exact .inl h
    · exact .inr ⟨p, ws, h1, h2, h3, fun w hw => by obtain ⟨i, f, e1, e2⟩ := h4 w hw; exact ⟨i, f, e1, e2.succ⟩⟩
theorem Wy.le {n m : Nat} {e : PyData} (h : Wy n e) (k : n ≤ m) : Wy m e := by
  induction k with
  | refl => exact h
  | step _ ih => exact ih.succ
theorem Wy.alt {n : Nat} {e : PyData} (h : Wy n e) : (∃ o, Nm o ∧ e = tdD o) ∨ ∃ m, m + 1 = n ∧ Cw m e := by
  cases n with
  | zero => exact .inl h
  | succ n =>
    rcases h with h | h
    · exact .inl h
    · exact .inr ⟨n, rfl, h⟩
/-- what is read of a way -/
def rdWhy (rd : Str → List Str) (f : List (Str × Int) → PyData → Bool) (hv : List (Str × Int)) (p : Str) (h : Int) : PyData → Bool
  | .tuple [.str _, .str o] => decide (o ∈ rd p ∧ o ∈ ks hv ∧ hval hv o = h)
  | e => f (hv ++ [(p, h)]) e
def hueD : PyData → Int
  | .tuple (.int h :: _) => h
  | _ => 0
def whyD : PyData → PyData
  | .tuple [_, e] => e
  | e => e
/-- whether a choice is read -/
def readF (rd : Str → List Str) (vs : List Str) (ls : Str → List Int) : Nat → List (Str × Int) → PyData → Bool
  | 0, _, _ => false
  | n + 1, hv, .tuple [.str p, .list ws] => decide (p ∈ vs) && !decide (p ∈ ks hv) && decide (ws.map hueD = ls p) && ws.all fun w => rdWhy rd (readF rd vs ls n) hv p (hueD w) (whyD w)
  | _ + 1, _, _ => false
section
variable {rd : Str → List Str} {vs : List Str} {ls : Str → List Int} {n : Nat} {hv : List (Str × Int)} {p o : Str} {ws : List PyData} {h : Int}
theorem readF_ch : readF rd vs ls (n + 1) hv (chD p ws) = (decide (p ∈ vs) && !decide (p ∈ ks hv) && decide (ws.map hueD = ls p) && ws.all fun w => rdWhy rd (readF rd vs ls n) hv p (hueD w) (whyD w)) := rfl
theorem rdWhy_td {f : List (Str × Int) → PyData → Bool} : rdWhy rd f hv p h (tdD o) = decide (o ∈ rd p ∧ o ∈ ks hv ∧ hval hv o = h) := rfl
theorem rdWhy_ch {f : List (Str × Int) → PyData → Bool} {q : Str} : rdWhy rd f hv p h (chD q ws) = f (hv ++ [(p, h)]) (chD q ws) := rfl
end
section
variable {K : PySem.W.Frag} {G G' : Hp} {v : V}
theorem dpAll_at : ∀ {xs : List V} {ds : List PyData}, DpAll K G xs ds → ∀ {i : Nat} {x : V}, xs[i]? = some x → ∃ d, ds[i]? = some d ∧ Dp K G x d
  | _, _, .cons h t, 0, x, e => by cases e; exact ⟨_, rfl, h⟩
  | _, _, .cons h t, i + 1, x, e => dpAll_at t (i := i) e
theorem dpAll_len : ∀ {xs : List V} {ds : List PyData}, DpAll K G xs ds → xs.length = ds.length
  | _, _, .nil => rfl
  | _, _, .cons _ t => by rw [List.length_cons, List.length_cons, dpAll_len t]
theorem dpAll_ex : ∀ {xs : List V} {ds : List PyData}, DpAll K G xs ds → ∀ {i : Nat} {d : PyData}, ds[i]? = some d → ∃ x, xs[i]? = some x ∧ Dp K G x d
  | _, _, .cons h t, 0, x, e => by cases e; exact ⟨_, rfl, h⟩
  | _, _, .cons h t, i + 1, x, e => dpAll_ex t (i := i) e
theorem dpAll_app : ∀ {xs ys : List V} {ds es : List PyData}, DpAll K G xs ds → DpAll K G ys es → DpAll K G (xs ++ ys) (ds ++ es)
  | _, _, _, _, .nil, h => h
  | _, _, _, _, .cons a t, h => .cons a (dpAll_app t h)
theorem dp_ch {p : Str} {ws : List PyData} (h : Dp K G v (chD p ws)) : ∃ t l xs, v = .ref t ∧ SqT K G t [.str p, .ref l] ∧ SqL K G l xs ∧ DpAll K G xs ws := by
  cases h with
  | tup h1 h2 =>
    cases h2 with
    | cons a b =>
      cases a
      cases b with
      | cons c d =>
        cases d
        cases c with
        | lst e f => exact ⟨_, _, _, rfl, h1, e, f⟩
theorem dp_wy {h : Int} {e : PyData} (q : Dp K G v (wyD h e)) : ∃ t u, v = .ref t ∧ SqT K G t [.int h, u] ∧ Dp K G u e := by
  cases q with
  | tup h1 h2 =>
    cases h2 with
    | cons a b =>
      cases a
      cases b with
      | cons c d =>
        cases d
        exact ⟨_, _, rfl, h1, c⟩
theorem dp_td {o : Str} (q : Dp K G v (tdD o)) : ∃ t, v = .ref t ∧ SqT K G t [.str "tied", .str o] := by
  cases q with
  | tup h1 h2 =>
    cases h2 with
    | cons a b =>
      cases a
      cases b with
      | cons c d =>
        cases d
        cases c
        exact ⟨_, rfl, h1⟩
theorem dp_s (s : Same G G') {d : PyData} (h : Dp K G v d) : Dp K G' v d := dp_sm s.sm h
theorem dpAll_s (s : Same G G') {xs : List V} {ds : List PyData} (h : DpAll K G xs ds) : DpAll K G' xs ds := dpAll_sm s.sm h
/-- the lists of places -/
def lsF (L : List (Str × List Int)) (p : Str) : List Int := ((L.find? fun x => decide (x.1 = p)).map (·.2)).getD []
def LisAt (K : PySem.W.Frag) (G : Hp) (a : Addr) (L : List (Str × List Int)) : Prop := ∃ hb : List (Str × Addr), Rd G a (.dK (dk V.ref hb)) ∧ Paired (fun b l => b.1 = l.1 ∧ SqL K G b.2 (l.2.map V.int)) hb L ∧ (L.map (·.1)).Nodup
theorem paired_ex {α β : Type} {R : α → β → Prop} : ∀ {xs : List α} {ys : List β}, Paired R xs ys → ∀ {i : Nat} {y : β}, ys[i]? = some y → ∃ x, xs[i]? = some x ∧ R x y
  | _, _, .cons r t, 0, y, e => by cases e; exact ⟨_, rfl, r⟩
  | _, _, .cons r t, i + 1, y, e => paired_ex t (i := i) e
theorem lsF_of {L : List (Str × List Int)} {x : Str × List Int} (hn : (L.map (·.1)).Nodup) (h : x ∈ L) : lsF L x.1 = x.2 := by
  induction L with
  | nil => exact nomatch h
  | cons a l ih =>
    obtain ⟨h1, h2⟩ := List.nodup_cons.mp hn
    rcases List.mem_cons.mp h with e | e
    · subst e
      unfold lsF
      rw [List.find?_cons_of_pos (by simp)]
      rfl
    · have : a.1 ≠ x.1 := fun q => h1 (by show a.1 ∈ _; rw [q]; exact List.mem_map.mpr ⟨x, e, rfl⟩)
      have := ih h2 e
      unfold lsF at this ⊢
      rw [List.find?_cons_of_neg (by simpa using ‹a.1 ≠ x.1›)]
      exact this
theorem LisAt.s {a : Addr} {L : List (Str × List Int)} (s : Same G G') (h : LisAt K G a L) : LisAt K G' a L := by
  obtain ⟨hb, h1, h2, h3⟩ := h
  exact ⟨hb, s.sm.r _ _ trivial h1, Paired.mapP h2 fun _ _ q => ⟨q.1, s.seq q.2⟩, h3⟩
theorem paired_fst {P : Addr → List Int → Prop} {hb : List (Str × Addr)} {L : List (Str × List Int)} (h : Paired (fun b l => b.1 = l.1 ∧ P b.2 l.2) hb L) : ks hb = L.map (·.1) := by
  induction h with
  | nil => rfl
  | @cons a b _ _ r t ih =>
    have e : a.1 = b.1 := r.1
    rw [List.map_cons, ← ih]
    show a.1 :: _ = b.1 :: _
    rw [e]
theorem LisAt.get {a : Addr} {L : List (Str × List Int)} {p : Str} (h : LisAt K G a L) (hp : p ∈ L.map (·.1)) : ∃ b, DGet G a (.str p) (some (.ref b)) ∧ SqL K G b ((lsF L p).map V.int) := by
  obtain ⟨hb, h1, h2, h3⟩ := h
  obtain ⟨x, hx, rfl⟩ := List.mem_map.mp hp
  obtain ⟨i, hi⟩ := List.mem_iff_getElem?.mp hx
  obtain ⟨y, hy, e1, e2⟩ := paired_ex h2 hi
  have hk : (ks hb).Nodup := by rw [paired_fst (P := fun b l => SqL K G b (l.map V.int)) h2]; exact h3
  refine ⟨y.2, .inl ⟨_, Sum.inr x.1, h1, rfl, ?_⟩, by rw [lsF_of h3 hx]; exact e2⟩
  rw [← e1]
  exact (valV_dk_some hk (List.mem_of_getElem? hy)).symm
theorem LisAt.no {a : Addr} {L : List (Str × List Int)} {p : Str} (h : LisAt K G a L) (hp : p ∉ L.map (·.1)) : DGet G a (.str p) none := by
  obtain ⟨hb, h1, h2, h3⟩ := h
  refine .inl ⟨_, Sum.inr p, h1, rfl, (valV_dk_none ?_).symm⟩
  rw [paired_fst (P := fun b l => SqL K G b (l.map V.int)) h2]
  exact hp
theorem LisAt.is {a : Addr} {L : List (Str × List Int)} (h : LisAt K G a L) : ∃ kvs, Rd G a (.dK kvs) ∧ kvs.map (·.1) = L.map (fun x => Sum.inr x.1) := by
  obtain ⟨hb, h1, h2, h3⟩ := h
  refine ⟨_, h1, ?_⟩
  rw [dk_keys, paired_fst (P := fun b l => SqL K G b (l.map V.int)) h2, List.map_map]
  rfl
end
end Five
end
section
namespace Five
open PySem PySem.Spec PyProof.Rows L2
/-! choices have a shape that may be compared; reading asks no more than who is tied to whom -/
theorem lay_all {n : Nat} : ∀ {ws : List PyData}, (∀ w ∈ ws, w.canLay0 = true ∧ w.depth ≤ n) → PyData.canLayAll0 ws = true ∧ PyData.depthAll ws ≤ n
  | [], _ => ⟨rfl, Nat.zero_le _⟩
  | w :: ws, h => by
    obtain ⟨a, b⟩ := lay_all fun x hx => h x (List.mem_cons_of_mem _ hx)
    obtain ⟨c, d⟩ := h w (by simp)
    exact ⟨by rw [PyData.canLayAll0, a, c]; rfl, by rw [PyData.depthAll]; omega⟩
theorem nm_tied : Nm "tied" := ⟨by decide, by decide, by decide +kernel⟩
theorem nm_nobody : Nm "nobody" := ⟨by decide, by decide, by decide +kernel⟩
theorem td_lay {o : Str} (h : Nm o) : (tdD o).canLay0 = true ∧ (tdD o).depth ≤ 1 := by
  refine ⟨?_, by simp [tdD, PyData.depth, PyData.depthAll]⟩
  rw [tdD, PyData.canLay0, PyData.canLayAll0, PyData.canLayAll0, PyData.canLayAll0, h.ok, nm_tied.ok]
  rfl
theorem wy_lay {h : Int} {e : PyData} {n : Nat} (q : e.canLay0 = true ∧ e.depth ≤ n) : (wyD h e).canLay0 = true ∧ (wyD h e).depth ≤ n + 1 := by
  refine ⟨?_, ?_⟩
  · rw [wyD, PyData.canLay0, PyData.canLayAll0, PyData.canLayAll0, PyData.canLayAll0, q.1]
    rfl
  · simp [wyD, PyData.depth, PyData.depthAll]
    omega
theorem ch_lay {p : Str} {ws : List PyData} {n : Nat} (hp : Nm p) (q : ∀ w ∈ ws, w.canLay0 = true ∧ w.depth ≤ n) : (chD p ws).canLay0 = true ∧ (chD p ws).depth ≤ n + 2 := by
  obtain ⟨a, b⟩ := lay_all q
  refine ⟨?_, ?_⟩
  · rw [chD, PyData.canLay0, PyData.canLayAll0, PyData.canLayAll0, PyData.canLayAll0, hp.ok, PyData.canLay0, a]
    rfl
  · simp [chD, PyData.depth, PyData.depthAll]
    omega
theorem Wy.lay : ∀ {n : Nat} {e : PyData}, Wy n e → e.canLay0 = true ∧ e.depth ≤ 3 * n + 1
  | 0, _, h => by
    obtain ⟨o, ho, rfl⟩ := h
    obtain ⟨a, b⟩ := td_lay ho
    exact ⟨a, by omega⟩
  | n + 1, e, h => by
    rcases h with ⟨o, ho, rfl⟩ | ⟨p, ws, h1, rfl, h3, h4⟩
    · obtain ⟨a, b⟩ := td_lay ho
      exact ⟨a, by omega⟩
    · obtain ⟨a, b⟩ := ch_lay h1 (n := 3 * n + 2) fun w hw => by
        obtain ⟨i, f, rfl, hf⟩ := h4 w hw
        exact wy_lay hf.lay
      exact ⟨a, by omega⟩
theorem ways_shaped {n : Nat} {ws : List PyData} (hn : n ≤ 20) (h : ∀ w ∈ ws, ∃ i f, w = wyD i f ∧ Wy n f) : SeqAt.shaped (.list ws) = true := by
  obtain ⟨a, b⟩ := lay_all (ws := ws) (n := 3 * n + 2) fun w hw => by
    obtain ⟨i, f, rfl, hf⟩ := h w hw
    exact wy_lay hf.lay
  unfold SeqAt.shaped
  rw [PyData.canLay0, a, PyData.depth]
  simp
  omega
theorem Cw.shaped {n : Nat} {e : PyData} (hn : n ≤ 18) (h : Cw n e) : SeqAt.shaped e = true := by
  obtain ⟨a, b⟩ := Wy.lay h.wy
  unfold SeqAt.shaped
  rw [a]
  simp
  omega
theorem Cw.eqv {n : Nat} {e : PyData} (h : Cw n e) : PyData.eqv e e = true := SeqAt.eqv_refl _ (Wy.lay h.wy).1
theorem readF_congr {rd rd' : Str → List Str} {vs vs' : List Str} {ls : Str → List Int} (hv : ∀ p, p ∈ vs ↔ p ∈ vs') (hr : ∀ p ∈ vs, ∀ o, o ∈ rd p ↔ o ∈ rd' p) : ∀ (n : Nat) (hs : List (Str × Int)) (e : PyData), readF rd vs ls n hs e = readF rd' vs' ls n hs e
  | 0, _, _ => rfl
  | n + 1, hs, e => by
    have ih := readF_congr (ls := ls) hv hr n
    unfold readF
    split
    · rfl
    · rename_i hx n2 p ws heq
      cases heq
      by_cases hp : p ∈ vs
      · rw [decide_eq_true hp, decide_eq_true ((hv p).mp hp)]
        congr 1
        refine List.all_congr rfl fun w => ?_
        unfold rdWhy
        split
        · rw [decide_eq_decide]
          exact and_congr_left' (hr p hp _)
        · exact ih _ _
      · rw [decide_eq_false hp, decide_eq_false fun z => hp ((hv p).mpr z)]
        rfl
    · rfl
end Five
end
section
namespace Five
open PySem PySem.Spec PyProof.Rows L2
theorem wo_on {H H2 : Hp} {D : Addr} {M : List Addr} (s : Same H H2) (hD : H D = none) : Same (wo H M) (wo H2 (D :: M)) := fun b o e => by
  obtain ⟨q1, q2⟩ := wo_get e
  rw [wo_out (by simp [ne_of_none q1 hD, q2])]
  exact s _ _ q1
theorem dpAll_of {K : PySem.W.Frag} {G : Hp} : ∀ {vs : List V} {ds : List PyData}, Paired (fun v d => Dp K G v d) vs ds → DpAll K G vs ds
  | _, _, .nil => .nil
  | _, _, .cons h t => .cons h (dpAll_of t)
theorem of_dpAll {K : PySem.W.Frag} {G : Hp} : ∀ {vs : List V} {ds : List PyData}, DpAll K G vs ds → Paired (fun v d => Dp K G v d) vs ds
  | _, _, .nil => .nil
  | _, _, .cons h t => .cons h (of_dpAll t)
theorem item_int {l : List Int} {i : Nat} {z : V} (h : (l.map V.int)[i]? = some z) : ∃ x, l[i]? = some x ∧ z = .int x := by
  rw [List.getElem?_map] at h
  cases q : l[i]? with
  | none => rw [q] at h; cases h
  | some x => rw [q] at h; cases h; exact ⟨x, rfl, rfl⟩
theorem LisAt.getS {K : PySem.W.Frag} {G : Hp} {a : Addr} {L : List (Str × List Int)} {p : Str} (h : LisAt K G a L) (hp : p ∈ L.map (·.1)) : ∃ b, SqL K G b ((lsF L p).map V.int) ∧ ∀ G', Same G G' → DGet G' a (.str p) (some (.ref b)) := by
  obtain ⟨hb, h1, h2, h3⟩ := h
  obtain ⟨x, hx, rfl⟩ := List.mem_map.mp hp
  obtain ⟨i, hi⟩ := List.mem_iff_getElem?.mp hx
  obtain ⟨y, hy, e1, e2⟩ := paired_ex h2 hi
  have hk : (ks hb).Nodup := by rw [paired_fst (P := fun b l => SqL K G b (l.map V.int)) h2]; exact h3
  refine ⟨y.2, by rw [lsF_of h3 hx]; exact e2, fun G' s => .inl ⟨_, Sum.inr x.1, s.sm.r _ _ trivial h1, rfl, ?_⟩⟩
  rw [← e1]
  exact (valV_dk_some hk (List.mem_of_getElem? hy)).symm
theorem Cw.succ {n : Nat} {e : PyData} (h : Cw n e) : Cw (n + 1) e := by
  obtain ⟨p, ws, h1, h2, h3, h4⟩ := h
  exact ⟨p, ws, h1, h2, h3, fun w hw => by obtain ⟨i, f, e1, e2⟩ := h4 w hw; exact ⟨i, f, e1, e2.succ⟩⟩
theorem Cw.le {n m : Nat} {e : PyData} (h : Cw n e) (k : n ≤ m) : Cw m e := by
  induction k with
  | refl => exact h
  | step _ ih => exact ih.succ
theorem readF_succ {rd : Str → List Str} {vs : List Str} {ls : Str → List Int} : ∀ {n : Nat} {hv : List (Str × Int)} {e : PyData}, readF rd vs ls n hv e = true → readF rd vs ls (n + 1) hv e = true
  | 0, _, _, h => by cases h
  | n + 1, hv, e, h => by
    unfold readF at h ⊢
    split at h
    · cases h
    · rename_i n2 hv2 p ws heq
      cases heq
      simp only [Bool.and_eq_true] at h ⊢
      refine ⟨h.1, List.all_eq_true.mpr fun w hw => ?_⟩
      have := List.all_eq_true.mp h.2 w hw
      unfold rdWhy at this ⊢
      split at this
      · exact this
      · exact readF_succ this
    · cases h
theorem readF_le {rd : Str → List Str} {vs : List Str} {ls : Str → List Int} {n : Nat} {hv : List (Str × Int)} {e : PyData} (h : readF rd vs ls n hv e = true) : readF rd vs ls (n + 1) hv e = true := readF_succ h
end Five
end
section
namespace Five
open PySem PySem.Spec PyProof.Rows L2
/-- a name of one, two or eight letters -/
def NmS (x : Str) : Prop := Nm x ∧ (x.length = 1 ∨ x.length = 2 ∨ x.length = 8)
/-! a dict of lists made of tuples -/
def TLI (K : PySem.W.Frag) (G : Hp) (t : Addr) (x : Str × List Int) : Prop := ∃ b, SqT K G t [.str x.1, .ref b] ∧ SqL K G b (x.2.map V.int)
instance {K : PySem.W.Frag} : Ms (TLI K) := ⟨fun s ⟨b, h1, h2⟩ => ⟨b, s.sm.seqT h1, s.sm.seq h2⟩⟩
theorem tli_dk {K : PySem.W.Frag} {G : Hp} {ts : List Addr} {L : List (Str × List Int)} (h : Paired (TLI K G) ts L) : ∃ hb : List (Str × Addr), Paired (fun p kv => SqT K G p [kV kv.1, kv.2]) ts (dk V.ref hb) ∧ Paired (fun b l => b.1 = l.1 ∧ SqL K G b.2 (l.2.map V.int)) hb L := by
  induction h with
  | nil => exact ⟨[], .nil, .nil⟩
  | @cons t x _ _ h _ ih =>
    obtain ⟨b, h1, h2⟩ := h
    obtain ⟨hb, q1, q2⟩ := ih
    exact ⟨(x.1, b) :: hb, .cons h1 q1, .cons ⟨rfl, h2⟩ q2⟩
theorem lis_new {K : PySem.W.Frag} {H : Hp} {d : Addr} {hb : List (Str × Addr)} {L : List (Str × List Int)} (h : Paired (fun b l => b.1 = l.1 ∧ SqL K H b.2 (l.2.map V.int)) hb L) (hn : (L.map (·.1)).Nodup) (hd : H d = none) : LisAt K (upd H d (.dK (mergeK [] (dk V.ref hb)))) d L ∧ upd H d (.dK (mergeK [] (dk V.ref hb))) d = some (.dK (dk V.ref hb)) := by
  have e : mergeK [] (dk V.ref hb) = dk V.ref hb := mergeK_nodup (by
    rw [dk_keys, paired_fst (P := fun b l => SqL K H b (l.map V.int)) h]
    exact nodup_inr hn)
  have e2 : upd H d (.dK (mergeK [] (dk V.ref hb))) d = some (.dK (dk V.ref hb)) := by rw [upd_same, e]
  exact ⟨⟨hb, .inl e2, Paired.mapP h fun _ _ q => ⟨q.1, (Same.new hd).sm.seq q.2⟩, hn⟩, e2⟩
theorem dropK_dk {α : Type} {c : α → V} (hb : List (Str × α)) (nm : Str) : dropK (dk c hb) (Sum.inr nm) = dk c (hb.filter fun b => decide (b.1 ≠ nm)) := by
  unfold dropK dk
  rw [List.filter_map]
  congr 1
  refine List.filter_congr fun b _ => ?_
  simp
theorem paired_filter {α β : Type} {R : α → β → Prop} {p : α → Bool} {q : β → Bool} (he : ∀ a b, R a b → p a = q b) {xs : List α} {ys : List β} (h : Paired R xs ys) : Paired R (xs.filter p) (ys.filter q) := by
  induction h with
  | nil => exact .nil
  | @cons a b _ _ r t ih =>
    rw [List.filter_cons, List.filter_cons, he a b r]
    cases q b
    · exact ih
    · exact .cons r ih
end Five
end
section
namespace Five
open PySem PySem.Spec PyProof.Rows L2
theorem un100 {A : Around} {k : Nat} (hr : Room k A) : A.units + 100 < cLine := by have := hr.un; omega
/-! dicts whose values are data, compared -/
def SameD (K : PySem.W.Frag) (H : Hp) (v u : V) : Prop := ∃ d : PyData, Dp K H v d ∧ Dp K H u d ∧ SeqAt.shaped d = true ∧ PyData.eqv d d = true
section
variable {κ : Type} [DecidableEq κ] {X : Cx}
theorem hits_allD {pins : List (Addr × Obj)} {σ : L2.St} {H : Hp} {s : Shared} (I : Inv X pins σ H s) (hu : X.A.in1.units + 64 < cLine) {kvs : List (κ × V)} {vb : List (κ × Value)} (rb : KV kvs vb) {ks : List (κ × V)} {va : List (κ × Value)} (ra : KV ks va) :
    (∀ p ∈ ks, ∃ u, valV kvs p.1 = some u ∧ SameD X.K H p.2 u) → PySem.W.KeqHits X.A.in1 s vb va true := by
  unfold KV at ra
  induction ra with
  | nil => intro _; exact .nil
  | @cons p q ps qs h t ih =>
    intro hp
    obtain ⟨h1, h2⟩ := h
    obtain ⟨u, e, d, d1, d2, sh, eq⟩ := hp p List.mem_cons_self
    have rr : RelO (some u) (valueAt vb p.1) := by rw [← e]; exact rb.val p.1
    obtain ⟨y, hy, ry⟩ := rr.some_of
    obtain ⟨k, v⟩ := q
    have h1' : p.1 = k := h1
    rw [h1'] at hy
    obtain ⟨as, r1⟩ := Dp.reads I _ _ _ d1 h2
    obtain ⟨bs, r2⟩ := Dp.reads I _ _ _ d2 ry
    have z := PySem.W.keq_at (A := X.A) r1 r2 sh sh hu
    rw [eq] at z
    show PySem.W.KeqHits X.A.in1 s vb ((k, v) :: qs) (true && true)
    exact .hit hy z (ih fun p' hm => hp p' (List.mem_cons_of_mem _ hm))
end
def rNeDL (K : PySem.W.Frag) : R2 := fun x y H Q => ∃ a b ks ls, x = .ref a ∧ y = .ref b ∧ H a = some (.dK ks) ∧ H b = some (.dK ls) ∧ ks.length = ls.length ∧ (∀ p ∈ ks, ∃ u, valV ls p.1 = some u ∧ SameD K H p.2 u) ∧ Q (.bl false) H
theorem op_ne_dictL {X : Cx} {K : PySem.W.Frag} (hu : X.A.units + 100 < cLine) (hK : X.K = K := by rfl) : OpR X (compareOp .NotEq) (rNeDL K) := by
  subst hK
  intro pins s σ H x y v u Q I rx ry h
  obtain ⟨a, b, ks, ls, rfl, rfl, ea, eb, hlen, hp, q⟩ := h
  obtain rfl : v = Value.ref a := rx
  obtain rfl : u = Value.ref b := ry
  obtain ⟨_, ya, va, ra, da⟩ := (show ObjOk X.prog X.w H s.heap a (.dK ks) from I.hok a _ ea)
  obtain ⟨_, yb, vb, rb, db⟩ := (show ObjOk X.prog X.w H s.heap b (.dK ls) from I.hok b _ eb)
  have hl : va.length = vb.length := by rw [← ra.length, ← rb.length]; exact hlen
  exact PySem.W.keq_ne (knd := mixKind X.prog X.w) (r := true) ya yb da db (by omega) (fun _ => hits_allD I (show X.A.units + 1 + 64 < cLine by omega) rb ra hp) (fin_bl I q (by simp [hl]))
theorem sameL {K : PySem.W.Frag} {H : Hp} {a b : Addr} {ns : List Int} (h1 : SqL K H a (ns.map V.int)) (h2 : SqL K H b (ns.map V.int)) : SameD K H (.ref a) (.ref b) := by
  have sh : SeqAt.shaped (.list (ns.map PyData.int)) = true := PySem.W.shaped_ints ns
  exact ⟨_, LI.dp h1, LI.dp h2, sh, SeqAt.eqv_refl _ (by unfold SeqAt.shaped at sh; exact (Bool.and_eq_true_iff.mp sh).1)⟩
/-- lists told twice -/
theorem lis_same {K : PySem.W.Frag} {H : Hp} {a b : Addr} {L : List (Str × List Int)} {Q : VK} (h1 : LisAt K H a L) (h2 : LisAt K H b L) (p1 : ∃ kvs, H a = some (.dK kvs)) (p2 : ∃ kvs, H b = some (.dK kvs)) (q : Q (.bl false) H) : rNeDL K (.ref a) (.ref b) H Q := by
  obtain ⟨ha, a1, a2, a3⟩ := h1
  obtain ⟨hb, b1, b2, b3⟩ := h2
  obtain ⟨ka, p1⟩ := p1
  obtain ⟨kb, p2⟩ := p2
  have e1 : H a = some (.dK (dk V.ref ha)) := by
    rcases a1 with h | ⟨o, h⟩
    · exact h
    · rw [p1] at h; cases h
  have e2 : H b = some (.dK (dk V.ref hb)) := by
    rcases b1 with h | ⟨o, h⟩
    · exact h
    · rw [p2] at h; cases h
  have hk2 : ks hb = L.map (·.1) := paired_fst (P := fun b l => SqL K H b (l.map V.int)) b2
  have hkn : (ks hb).Nodup := by rw [hk2]; exact b3
  refine ⟨a, b, _, _, rfl, rfl, e1, e2, ?_, fun p hp => ?_, q⟩
  · unfold dk
    rw [List.length_map, List.length_map, Paired.length a2, Paired.length b2]
  · obtain ⟨x, hx, rfl⟩ := List.mem_map.mp hp
    obtain ⟨i, hi⟩ := List.mem_iff_getElem?.mp hx
    obtain ⟨l, hl, e3, e4⟩ := paired_get a2 i x hi
    obtain ⟨y, hy, e5, e6⟩ := paired_ex b2 hl
    refine ⟨.ref y.2, ?_, sameL e4 e6⟩
    have := valV_dk_some (c := V.ref) hkn (show (y.1, y.2) ∈ hb from List.mem_of_getElem? hy)
    show valV (dk V.ref hb) (Sum.inr x.1) = _
    rw [e3, ← e5]
    exact this
end Five
end
section
namespace Five
open PySem PySem.Spec PyProof.Rows L2
/-! hues from lists, searched: what is told is right -/
inductive SR where
  | hues : List (Str × Int) → SR
  | cho : PyData → SR
section
variable (rd : Str → List Str) (ls : Str → List Int)
def tiedF (hv : List (Str × Int)) (p : Str) (h : Int) : Option Str := (rd p).find? fun o => decide (o ∈ ks hv ∧ hval hv o = h)
def freeF (hv : List (Str × Int)) (p : Str) : Nat := ((ls p).filter fun h => (tiedF rd hv p h).isNone).length
def frP (hv : List (Str × Int)) (p : Str) : Int × Str := (((freeF rd ls hv p : Nat) : Int), p)
def tightF (hv : List (Str × Int)) (left : List Str) : Str := (left.find? fun p => left.all fun q => leD (frP rd ls hv p) (frP rd ls hv q)).getD ""
def waysF (f : List (Str × Int) → SR) (hv : List (Str × Int)) (p : Str) : List Int → List PyData → SR
  | [], ws => .cho (chD p ws)
  | h :: t, ws => match tiedF rd hv p h with
    | some o => waysF f hv p t (ws ++ [wyD h (tdD o)])
    | none => match f (hv ++ [(p, h)]) with
      | .hues x => .hues x
      | .cho e => waysF f hv p t (ws ++ [wyD h e])
def srchF : Nat → List (Str × Int) → List Str → SR
  | 0, hv, _ => .hues hv
  | n + 1, hv, left => if left = [] then .hues hv else waysF rd (fun x => srchF n x (left.filter fun o => decide (o ≠ tightF rd ls hv left))) hv (tightF rd ls hv left) (ls (tightF rd ls hv left)) []
def fromF (n : Nat) : List (List Str) → List (Str × Int) → SR
  | [], acc => .hues acc
  | c :: t, acc => match srchF rd ls n [] c with
    | .hues x => fromF n t (acc ++ x)
    | .cho e => .cho e
/-- right hues from the lists -/
def RightH (hv : List (Str × Int)) : Prop := ∀ p ∈ ks hv, hval hv p ∈ ls p ∧ ∀ o ∈ rd p, o ∈ ks hv → hval hv o ≠ hval hv p
end
section
variable {rd : Str → List Str} {ls : Str → List Int} {hv : List (Str × Int)} {left : List Str} {p : Str}
theorem tight_is (h : p ∈ left) (hm : ∀ q ∈ left, leD (frP rd ls hv p) (frP rd ls hv q) = true) : tightF rd ls hv left = p := by
  unfold tightF
  have hp : (fun p => left.all fun q => leD (frP rd ls hv p) (frP rd ls hv q)) p = true := List.all_eq_true.mpr hm
  cases hf : left.find? fun p => left.all fun q => leD (frP rd ls hv p) (frP rd ls hv q) with
  | none => exact absurd hp (by simpa using List.find?_eq_none.mp hf p h)
  | some q =>
    have h0 : left.all (fun r => leD (frP rd ls hv q) (frP rd ls hv r)) = true := List.find?_some (p := fun p => left.all fun q => leD (frP rd ls hv p) (frP rd ls hv q)) hf
    have h1 := List.all_eq_true.mp h0 p h
    have h2 := hm q (List.mem_of_find?_eq_some hf)
    exact (Prod.mk.inj (leD_anti h1 h2)).2
theorem tight_min (hne : left ≠ []) : ∃ q ∈ left, ∀ r ∈ left, leD (frP rd ls hv q) (frP rd ls hv r) = true := by
  cases left with
  | nil => exact absurd rfl hne
  | cons a l =>
    obtain ⟨m, hm, hin, hmin⟩ := minD_is ((a :: l).map (frP rd ls hv)).tail (((a :: l).map (frP rd ls hv)).head (by simp))
    have hin' : m ∈ (a :: l).map (frP rd ls hv) := hin
    have hmin' : ∀ y ∈ (a :: l).map (frP rd ls hv), leD m y = true := hmin
    obtain ⟨q, hq, e⟩ := List.mem_map.mp hin'
    refine ⟨q, hq, fun r hr => ?_⟩
    rw [e]
    exact hmin' _ (List.mem_map.mpr ⟨r, hr, rfl⟩)
theorem tight_mem (hne : left ≠ []) : tightF rd ls hv left ∈ left := by
  obtain ⟨q, hq, hm⟩ := tight_min (rd := rd) (ls := ls) (hv := hv) hne
  rw [tight_is hq hm]
  exact hq
theorem hval_app_l {a b : List (Str × Int)} {v : Str} (hn : (ks (a ++ b)).Nodup) (h : v ∈ ks a) : hval (a ++ b) v = hval a v := by
  have hna : (ks a).Nodup := by
    unfold ks at hn ⊢
    rw [List.map_append] at hn
    exact (List.nodup_append.mp hn).1
  obtain ⟨⟨x, i⟩, hx, rfl⟩ := List.mem_map.mp h
  rw [hval_of hna hx, hval_of hn (List.mem_append_left _ hx)]
theorem hval_app_r {a b : List (Str × Int)} {v : Str} (hn : (ks (a ++ b)).Nodup) (h : v ∈ ks b) : hval (a ++ b) v = hval b v := by
  have hnb : (ks b).Nodup := by
    unfold ks at hn ⊢
    rw [List.map_append] at hn
    exact (List.nodup_append.mp hn).2.1
  obtain ⟨⟨x, i⟩, hx, rfl⟩ := List.mem_map.mp h
  rw [hval_of hnb hx, hval_of hn (List.mem_append_right _ hx)]
theorem ks_appH {a b : List (Str × Int)} : ks (a ++ b) = ks a ++ ks b := by unfold ks; rw [List.map_append]
theorem right_snoc {h : Int} (hn : (ks hv).Nodup) (hp : p ∉ ks hv) (hr : RightH rd ls hv) (hh : h ∈ ls p) (ht : tiedF rd hv p h = none) (hs : ∀ o ∈ rd p, p ∈ rd o ∧ o ≠ p) (hs2 : ∀ q ∈ ks hv, ∀ o ∈ rd q, q ∈ rd o) : RightH rd ls (hv ++ [(p, h)]) := by
  have hn2 : (ks (hv ++ [(p, h)])).Nodup := by
    rw [ks_appH]
    exact List.nodup_append.mpr ⟨hn, by simp [ks], fun a ha b hb e => hp (by rw [show b = p by simpa [ks] using hb] at e; rw [← e]; exact ha)⟩
  have hvp : hval (hv ++ [(p, h)]) p = h := hval_of hn2 (List.mem_append_right _ (by simp))
  have old : ∀ {q : Str}, q ∈ ks hv → hval (hv ++ [(p, h)]) q = hval hv q := fun hq => hval_app_l hn2 hq
  have tn : ∀ o ∈ rd p, o ∈ ks hv → hval hv o ≠ h := fun o ho hk e => by
    have := List.find?_eq_none.mp ht o ho
    exact this (decide_eq_true ⟨hk, e⟩)
  intro q hq
  rw [ks_appH, List.mem_append] at hq
  rcases hq with hq | hq
  · rw [old hq]
    refine ⟨(hr q hq).1, fun o ho hk => ?_⟩
    rw [ks_appH, List.mem_append] at hk
    rcases hk with hk | hk
    · rw [old hk]
      exact (hr q hq).2 o ho hk
    · obtain rfl : o = p := by simpa [ks] using hk
      rw [hvp]
      exact fun e => tn q (hs2 q hq o ho) hq e.symm
  · obtain rfl : q = p := by simpa [ks] using hq
    rw [hvp]
    refine ⟨hh, fun o ho hk => ?_⟩
    rw [ks_appH, List.mem_append] at hk
    rcases hk with hk | hk
    · rw [old hk]
      exact tn o ho hk
    · exact absurd (by simpa [ks] using hk) (hs o ho).2
/-- what a told thing is: right hues of those chosen and those left, or a choice that is read -/
def TldOk (rd : Str → List Str) (vs : List Str) (ls : Str → List Int) (hv : List (Str × Int)) (left : List Str) : SR → Prop
  | .hues x => (ks x).Perm (ks hv ++ left) ∧ RightH rd ls x
  | .cho e => left ≠ [] ∧ Cw (left.length - 1) e ∧ ∀ m, left.length ≤ m → readF rd vs ls m hv e = true
theorem ways_ok {vs : List Str} {f : List (Str × Int) → SR} {rest : List Str} (hpv : p ∈ vs) (hpk : p ∉ ks hv) (hnm : Nm p) (hnv : ∀ v ∈ vs, Nm v) (hrv : ∀ o ∈ rd p, o ∈ vs) (h5 : (ls p).length ≤ 10)
    (hf : ∀ h ∈ ls p, tiedF rd hv p h = none → TldOk rd vs ls (hv ++ [(p, h)]) rest (f (hv ++ [(p, h)]))) :
    ∀ (hs : List Int) (ws : List PyData), ls p = ws.map hueD ++ hs → (∀ w ∈ ws, ∃ h f, w = wyD h f ∧ Wy rest.length f ∧ ∀ m, rest.length ≤ m → rdWhy rd (readF rd vs ls m) hv p h f = true) →
      match waysF rd f hv p hs ws with
      | .hues x => ∃ h ∈ ls p, tiedF rd hv p h = none ∧ f (hv ++ [(p, h)]) = .hues x
      | .cho e => Cw rest.length e ∧ ∀ m, rest.length + 1 ≤ m → readF rd vs ls m hv e = true
  | [], ws, e, hw => by
    refine ⟨⟨p, ws, hnm, rfl, ?_, fun w h => ?_⟩, fun m hm => ?_⟩
    · have := congrArg List.length e
      rw [List.append_nil, List.length_map] at this
      omega
    · obtain ⟨h, f, e1, e2, _⟩ := hw w h
      exact ⟨h, f, e1, e2⟩
    · obtain ⟨m, rfl⟩ : ∃ k, m = k + 1 := ⟨m - 1, by omega⟩
      rw [readF_ch, decide_eq_true hpv, decide_eq_false hpk, decide_eq_true (show ws.map hueD = ls p by rw [e, List.append_nil])]
      refine List.all_eq_true.mpr fun w hw' => ?_
      obtain ⟨h, f, rfl, _, e3⟩ := hw w hw'
      exact e3 m (by omega)
  | h :: t, ws, e, hw => by
    have hh : h ∈ ls p := by rw [e]; simp
    have e2 : ∀ g : PyData, ls p = (ws ++ [wyD h g]).map hueD ++ t := fun g => by rw [e, List.map_append, List.append_assoc]; rfl
    unfold waysF
    cases ht : tiedF rd hv p h with
    | some o =>
      have ho := List.mem_of_find?_eq_some ht
      have hd : decide (o ∈ ks hv ∧ hval hv o = h) = true := List.find?_some (p := fun o => decide (o ∈ ks hv ∧ hval hv o = h)) ht
      have hd := of_decide_eq_true hd
      refine ways_ok hpv hpk hnm hnv hrv h5 hf t _ (e2 _) fun w hw' => ?_
      rcases List.mem_append.mp hw' with q | q
      · exact hw w q
      · rw [List.mem_singleton.mp q]
        exact ⟨h, _, rfl, Wy.le (n := 0) ⟨o, hnv o (hrv o ho), rfl⟩ (Nat.zero_le _), fun m _ => by rw [rdWhy_td]; exact decide_eq_true ⟨ho, hd.1, hd.2⟩⟩
    | none =>
      have hok := hf h hh ht
      cases hfx : f (hv ++ [(p, h)]) with
      | hues x => exact ⟨h, hh, ht, hfx⟩
      | cho g =>
        rw [hfx] at hok
        obtain ⟨hne, hcw, hrd⟩ := hok
        have hrl : 0 < rest.length := List.length_pos_iff.mpr hne
        refine ways_ok hpv hpk hnm hnv hrv h5 hf t _ (e2 _) fun w hw' => ?_
        rcases List.mem_append.mp hw' with q | q
        · exact hw w q
        · rw [List.mem_singleton.mp q]
          refine ⟨h, g, rfl, hcw.wy.le (by omega), fun m hm => ?_⟩
          have := hrd m hm
          obtain ⟨q, ws', _, rfl, _⟩ := hcw
          rw [rdWhy_ch]
          exact this
/-- how the web is: symmetric, nobody tied to itself; names; lists of five at most -/
structure LisW (rd : Str → List Str) (vs : List Str) (ls : Str → List Int) : Prop where
  ti : ∀ p ∈ vs, ∀ o ∈ rd p, o ∈ vs ∧ p ∈ rd o ∧ o ≠ p
  nm : ∀ v ∈ vs, Nm v
  l5 : ∀ v ∈ vs, (ls v).length ≤ 10
theorem srch_ok {vs : List Str} (W : LisW rd vs ls) : ∀ (n : Nat) (hv : List (Str × Int)) (left : List Str), left.length ≤ n → left.Nodup → (ks hv).Nodup → (∀ q ∈ left, q ∈ vs ∧ q ∉ ks hv) → (∀ q ∈ ks hv, q ∈ vs) → RightH rd ls hv → TldOk rd vs ls hv left (srchF rd ls n hv left)
  | 0, hv, left, hl, hn, hk, h1, h2, hr => by
    obtain rfl := List.eq_nil_of_length_eq_zero (Nat.le_zero.mp hl)
    exact ⟨by rw [List.append_nil], hr⟩
  | n + 1, hv, left, hl, hn, hk, h1, h2, hr => by
    unfold srchF
    by_cases hne : left = []
    · subst hne
      rw [if_pos rfl]
      exact ⟨by rw [List.append_nil], hr⟩
    rw [if_neg hne]
    have hm := tight_mem (rd := rd) (ls := ls) (hv := hv) hne
    generalize tightF rd ls hv left = p at hm
    have hpe : left.Perm (p :: left.filter fun o => decide (o ≠ p)) := perm_of_mem hn (List.nodup_cons.mpr ⟨fun z => (by simpa using (List.mem_filter.mp z).2), hn.filter _⟩) fun x => by
      rw [List.mem_cons, List.mem_filter]
      constructor
      · intro hx
        by_cases e : x = p
        · exact .inl e
        · exact .inr ⟨hx, decide_eq_true e⟩
      · rintro (e | ⟨hx, _⟩)
        · rw [e]; exact hm
        · exact hx
    have hrl : left.length = (left.filter fun o => decide (o ≠ p)).length + 1 := by rw [hpe.length_eq, List.length_cons]
    have hpv := (h1 p hm).1
    have hpk := (h1 p hm).2
    have hfok : ∀ h ∈ ls p, tiedF rd hv p h = none → TldOk rd vs ls (hv ++ [(p, h)]) (left.filter fun o => decide (o ≠ p)) (srchF rd ls n (hv ++ [(p, h)]) (left.filter fun o => decide (o ≠ p))) := fun h hh ht => by
      refine srch_ok W n _ _ (by omega) (hn.filter _) ?_ (fun q hq => ?_) (fun q hq => ?_) (right_snoc hk hpk hr hh ht (fun o ho => (W.ti p hpv o ho).2) fun q hq o ho => (W.ti q (h2 q hq) o ho).2.1)
      · rw [ks_appH]
        exact List.nodup_append.mpr ⟨hk, by simp [ks], fun a ha b hb e => hpk (by rw [show b = p by simpa [ks] using hb] at e; rw [← e]; exact ha)⟩
      · obtain ⟨q1, q2⟩ := List.mem_filter.mp hq
        refine ⟨(h1 q q1).1, fun z => ?_⟩
        rw [ks_appH, List.mem_append] at z
        rcases z with z | z
        · exact (h1 q q1).2 z
        · exact (of_decide_eq_true q2) (by simpa [ks] using z)
      · rw [ks_appH, List.mem_append] at hq
        rcases hq with z | z
        · exact h2 q z
        · rw [show q = p by simpa [ks] using z]
          exact hpv
    have key := ways_ok (rd := rd) (ls := ls) (hv := hv) (f := fun x => srchF rd ls n x (left.filter fun o => decide (o ≠ p))) hpv hpk (W.nm p hpv) W.nm (fun o ho => (W.ti p hpv o ho).1) (W.l5 p hpv) hfok (ls p) [] rfl (fun w h => nomatch h)
    cases hwf : waysF rd (fun x => srchF rd ls n x (left.filter fun o => decide (o ≠ p))) hv p (ls p) [] with
    | hues x =>
      rw [hwf] at key
      obtain ⟨h, hh, ht, e⟩ := key
      have q := hfok h hh ht
      rw [show srchF rd ls n (hv ++ [(p, h)]) (left.filter fun o => decide (o ≠ p)) = .hues x from e] at q
      refine ⟨q.1.trans ?_, q.2⟩
      rw [ks_appH, List.append_assoc]
      exact (List.Perm.refl _).append hpe.symm
    | cho e =>
      rw [hwf] at key
      refine ⟨hne, by rw [hrl]; exact key.1, fun m hm' => key.2 m (by omega)⟩
theorem from_ok {vs : List Str} (W : LisW rd vs ls) {n : Nat} : ∀ (cs : List (List Str)) (acc : List (Str × Int)), (ks acc ++ cs.flatten).Nodup → (∀ v ∈ ks acc ++ cs.flatten, v ∈ vs) → (∀ c ∈ cs, c ≠ [] ∧ c.length ≤ n) → (∀ c ∈ cs, ∀ v ∈ c, ∀ u ∈ rd v, u ∈ c) → (∀ v ∈ ks acc, ∀ u ∈ rd v, u ∈ ks acc) → RightH rd ls acc →
    match fromF rd ls n cs acc with
    | .hues x => (ks x).Perm (ks acc ++ cs.flatten) ∧ RightH rd ls x
    | .cho e => Cw (n - 1) e ∧ ∀ m, n ≤ m → readF rd vs ls m [] e = true
  | [], acc, hn, hv, hl, hs, ha, hr => by
    show (ks acc).Perm (ks acc ++ []) ∧ _
    exact ⟨by rw [List.append_nil], hr⟩
  | c :: cs, acc, hn, hv, hl, hs, ha, hr => by
    have hn' : (ks acc ++ (c ++ cs.flatten)).Nodup := hn
    obtain ⟨n1, n2, n3⟩ := List.nodup_append.mp hn'
    obtain ⟨n4, n5, n6⟩ := List.nodup_append.mp n2
    have key := srch_ok (rd := rd) (ls := ls) W n [] c (hl c (by simp)).2 n4 List.nodup_nil (fun q hq => ⟨hv q (by simp [hq]), fun z => nomatch z⟩) (fun q hq => nomatch hq) (fun p hp => nomatch hp)
    unfold fromF
    cases he : srchF rd ls n [] c with
    | cho e =>
      rw [he] at key
      obtain ⟨_, k2, k3⟩ := key
      have hc := (hl c (by simp)).2
      exact ⟨by obtain ⟨p, ws, a, b, d, f⟩ := k2; exact ⟨p, ws, a, b, d, fun w hw => by obtain ⟨h, g, e1, e2⟩ := f w hw; exact ⟨h, g, e1, e2.le (by omega)⟩⟩, fun m hm => k3 m (by omega)⟩
    | hues x =>
      rw [he] at key
      have k1 : (ks x).Perm c := key.1
      have k2 := key.2
      have kn : (ks (acc ++ x)).Nodup := by
        rw [ks_appH]
        exact List.nodup_append.mpr ⟨n1, k1.nodup_iff.mpr n4, fun a ha b hb => n3 a ha b (by simp [k1.mem_iff.mp hb])⟩
      have ih := from_ok W cs (acc ++ x) (by
          rw [ks_appH, List.append_assoc]
          exact (((List.Perm.refl (ks acc)).append (k1.append (List.Perm.refl cs.flatten))).nodup_iff).mpr hn') (fun v h => hv v (by
          rw [ks_appH, List.append_assoc] at h
          have h2 := (((List.Perm.refl (ks acc)).append (k1.append (List.Perm.refl cs.flatten))).mem_iff).mp h
          exact h2)) (fun d hd => hl d (List.mem_cons_of_mem _ hd)) (fun d hd => hs d (List.mem_cons_of_mem _ hd)) (fun v h u hu => by
          rw [ks_appH, List.mem_append] at h ⊢
          rcases h with h | h
          · exact .inl (ha v h u hu)
          · exact .inr (k1.mem_iff.mpr (hs c (by simp) v (k1.mem_iff.mp h) u hu))) (fun p hp => by
          rw [ks_appH, List.mem_append] at hp
          rcases hp with h | h
          · rw [hval_app_l kn h]
            exact ⟨(hr p h).1, fun o ho hk => by
              have ho2 := ha p h o ho
              rw [hval_app_l kn ho2]
              exact (hr p h).2 o ho ho2⟩
          · rw [hval_app_r kn h]
            exact ⟨(k2 p h).1, fun o ho hk => by
              have ho2 := k1.mem_iff.mpr (hs c (by simp) p (k1.mem_iff.mp h) o ho)
              rw [hval_app_r kn ho2]
              exact (k2 p h).2 o ho ho2⟩)
      show match fromF rd ls n cs (acc ++ x) with | .hues x => _ | .cho e => _
      cases hf : fromF rd ls n cs (acc ++ x) with
      | cho e => rw [hf] at ih; exact ih
      | hues y =>
        rw [hf] at ih
        refine ⟨ih.1.trans ?_, ih.2⟩
        rw [ks_appH, List.append_assoc]
        exact (List.Perm.refl _).append (k1.append (List.Perm.refl _))
end
end Five
end
section
namespace Five
open PySem PySem.Spec PyProof.Rows L2
/-! the law's own search; a choice that is read: there are no hues -/
def lawF (rd : Str → List Str) (ls : Str → List Int) : Nat → List (Str × Int) → List Str → SR
  | 0, hv, _ => .hues hv
  | _ + 1, hv, [] => .hues hv
  | n + 1, hv, p :: t => waysF rd (fun x => lawF rd ls n x t) hv p (ls p) []
def kindS : SR → Str
  | .hues _ => "hues"
  | .cho _ => "choice"
theorem law_ok {rd : Str → List Str} {ls : Str → List Int} {vs : List Str} (W : LisW rd vs ls) : ∀ (n : Nat) (hv : List (Str × Int)) (left : List Str), left.length ≤ n → left.Nodup → (ks hv).Nodup → (∀ q ∈ left, q ∈ vs ∧ q ∉ ks hv) → (∀ q ∈ ks hv, q ∈ vs) → RightH rd ls hv → TldOk rd vs ls hv left (lawF rd ls n hv left)
  | 0, hv, left, hl, hn, hk, h1, h2, hr => by
    obtain rfl := List.eq_nil_of_length_eq_zero (Nat.le_zero.mp hl)
    exact ⟨by rw [List.append_nil], hr⟩
  | n + 1, hv, [], hl, hn, hk, h1, h2, hr => ⟨by rw [List.append_nil], hr⟩
  | n + 1, hv, p :: t, hl, hn, hk, h1, h2, hr => by
    obtain ⟨n1, n2⟩ := List.nodup_cons.mp hn
    have hpv := (h1 p (by simp)).1
    have hpk := (h1 p (by simp)).2
    rw [List.length_cons] at hl
    have hfok : ∀ h ∈ ls p, tiedF rd hv p h = none → TldOk rd vs ls (hv ++ [(p, h)]) t (lawF rd ls n (hv ++ [(p, h)]) t) := fun h hh ht => by
      refine law_ok W n _ _ (by omega) n2 ?_ (fun q hq => ?_) (fun q hq => ?_) (right_snoc hk hpk hr hh ht (fun o ho => (W.ti p hpv o ho).2) fun q hq o ho => (W.ti q (h2 q hq) o ho).2.1)
      · rw [ks_appH]
        exact List.nodup_append.mpr ⟨hk, by simp [ks], fun a ha b hb e => hpk (by rw [show b = p by simpa [ks] using hb] at e; rw [← e]; exact ha)⟩
      · refine ⟨(h1 q (List.mem_cons_of_mem _ hq)).1, fun z => ?_⟩
        rw [ks_appH, List.mem_append] at z
        rcases z with z | z
        · exact (h1 q (List.mem_cons_of_mem _ hq)).2 z
        · exact n1 (by rw [← show q = p by simpa [ks] using z]; exact hq)
      · rw [ks_appH, List.mem_append] at hq
        rcases hq with z | z
        · exact h2 q z
        · rw [show q = p by simpa [ks] using z]
          exact hpv
    have key := ways_ok (rd := rd) (ls := ls) (hv := hv) (f := fun x => lawF rd ls n x t) hpv hpk (W.nm p hpv) W.nm (fun o ho => (W.ti p hpv o ho).1) (W.l5 p hpv) hfok (ls p) [] rfl (fun w h => nomatch h)
    show TldOk rd vs ls hv (p :: t) (waysF rd (fun x => lawF rd ls n x t) hv p (ls p) [])
    cases hwf : waysF rd (fun x => lawF rd ls n x t) hv p (ls p) [] with
    | hues x =>
      rw [hwf] at key
      obtain ⟨h, hh, ht, e⟩ := key
      have q := hfok h hh ht
      rw [show lawF rd ls n (hv ++ [(p, h)]) t = .hues x from e] at q
      refine ⟨q.1.trans ?_, q.2⟩
      rw [ks_appH, List.append_assoc]
      exact .refl _
    | cho e =>
      rw [hwf] at key
      exact ⟨by simp, key.1, fun m hm' => key.2 m (by rw [List.length_cons] at hm'; exact hm')⟩
theorem read_sound {rd : Str → List Str} {ls : Str → List Int} {vs : List Str} {x : List (Str × Int)} (hx : RightH rd ls x) (hxv : ∀ p ∈ vs, p ∈ ks x) (hvs : ∀ p ∈ vs, ∀ o ∈ rd p, o ∈ vs) : ∀ (n : Nat) (hv : List (Str × Int)) (e : PyData), readF rd vs ls n hv e = true → (ks hv).Nodup → (∀ p ∈ ks hv, hval x p = hval hv p) → False
  | 0, _, _, h, _, _ => by cases h
  | n + 1, hv, e, h, hn, hq => by
    have ih := read_sound hx hxv hvs n
    by_cases hc : ∃ p ws, e = chD p ws
    rotate_left
    · unfold readF at h
      split at h
      · cases h
      · exact hc ⟨_, _, rfl⟩
      · cases h
    obtain ⟨p, ws, rfl⟩ := hc
    rw [readF_ch] at h
    simp only [Bool.and_eq_true, Bool.not_eq_true'] at h
    obtain ⟨⟨⟨h1, h2⟩, h3⟩, h4⟩ := h
    have h1 := of_decide_eq_true h1
    have h2 := of_decide_eq_false h2
    have h3 := of_decide_eq_true h3
    have hp := hx p (hxv p h1)
    obtain ⟨w, hw, e1⟩ := List.mem_map.mp (by rw [h3]; exact hp.1)
    have h5 := List.all_eq_true.mp h4 w hw
    rw [e1] at h5
    unfold rdWhy at h5
    split at h5
    · obtain ⟨a, b, c⟩ := of_decide_eq_true h5
      exact hp.2 _ a (hxv _ (hvs p h1 _ a)) (by rw [hq _ b, c])
    · have hn2 : (ks (hv ++ [(p, hval x p)])).Nodup := by
        rw [ks_appH]
        exact List.nodup_append.mpr ⟨hn, by simp [ks], fun a ha b hb e => h2 (by rw [show b = p by simpa [ks] using hb] at e; rw [← e]; exact ha)⟩
      refine ih _ _ h5 hn2 fun q hk => ?_
      rw [ks_appH, List.mem_append] at hk
      rcases hk with z | z
      · rw [hval_app_l hn2 z]; exact hq q z
      · obtain rfl : q = p := by simpa [ks] using z
        exact (hval_of (p := hval x q) hn2 (List.mem_append_right _ (List.mem_singleton.mpr rfl))).symm
/-- two that tell of the same places and lists tell the same kind -/
theorem kinds_eq {rd rd' : Str → List Str} {ls : Str → List Int} {vs vs' : List Str} {r r' : SR} {n n' : Nat} (hvs : ∀ p ∈ vs, ∀ o ∈ rd p, o ∈ vs) (hvs' : ∀ p ∈ vs', ∀ o ∈ rd' p, o ∈ vs') (hm : ∀ p, p ∈ vs ↔ p ∈ vs') (hr : ∀ p ∈ vs, ∀ o, o ∈ rd p ↔ o ∈ rd' p)
    (h : match r with | .hues x => (ks x).Perm vs ∧ RightH rd ls x | .cho e => readF rd vs ls n [] e = true) (h' : match r' with | .hues x => (ks x).Perm vs' ∧ RightH rd' ls x | .cho e => readF rd' vs' ls n' [] e = true) : kindS r = kindS r' := by
  cases r with
  | hues x =>
    cases r' with
    | hues _ => rfl
    | cho e =>
      refine (read_sound (rd := rd') (ls := ls) (vs := vs') (x := x) (fun p hp => ⟨(h.2 p hp).1, fun o ho => (h.2 p hp).2 o ((hr p (h.1.mem_iff.mp hp) o).mpr ho)⟩) (fun p hp => h.1.mem_iff.mpr ((hm p).mpr hp)) hvs' _ _ _ h' List.nodup_nil (fun p hp => nomatch hp)).elim
  | cho e =>
    cases r' with
    | hues x =>
      refine (read_sound (rd := rd) (ls := ls) (vs := vs) (x := x) (fun p hp => ⟨(h'.2 p hp).1, fun o ho => (h'.2 p hp).2 o ((hr p ((hm p).mpr (h'.1.mem_iff.mp hp)) o).mp ho)⟩) (fun p hp => h'.1.mem_iff.mpr ((hm p).mp hp)) hvs _ _ _ h List.nodup_nil (fun p hp => nomatch hp)).elim
    | cho _ => rfl
end Five
end
section
namespace Five
open PySem PySem.Spec PyProof.Rows L2
open PySem.Froz (SD sObj tailTx addTx TxOk add_ok add_x)
/-! sorted(set(xs)), xs unlike texts -/
theorem tailTx_ris {ep : Nat} {es1 : Array (Int × Value)} {t2 : SetTable} {wd : Bool} (r : Ris t2.place.toList) : Ris (tailTx ep es1 t2 wd).2.2.place.toList := by
  unfold tailTx
  split
  · exact relayAll_ris _ _ _
  · exact r
theorem tailTx_led {ep : Nat} {es1 : Array (Int × Value)} {t2 : SetTable} {wd : Bool} : (tailTx ep es1 t2 wd).2.2.led = t2.led := by
  unfold tailTx
  split
  · exact relayAll_led _ _ _
  · rfl
theorem addTx_ris (h : Int) (v : Value) (D : SD) (r : Ris D.2.2.place.toList) : Ris (addTx h v D).2.2.place.toList := by
  have := layNew_ris D.2.2 D.1 h v r
  unfold addTx
  refine tailTx_ris ?_
  split
  · exact this
  · exact this
theorem addTx_led (h : Int) (v : Value) (D : SD) : (addTx h v D).2.2.led = D.2.2.led := by
  have e := layNew_led D.2.2 D.1 h v
  unfold addTx
  rw [tailTx_led]
  split
  · exact e
  · exact e
structure TxR (prog : Program) (w : World) (h : Heap) (a : Addr) (D : SD) (l : List Str) : Prop where
  ob : h.get? a = some (sObj "set" D)
  tx : TxOk prog w D l
  ris : Ris D.2.2.place.toList
  led : w.params.followText "set-order" = true ∨ D.2.2.led = true
section
variable {prog : Program} {w : World} {A : Around} {R : Result → Shared → Prop} {J : Addr} {fp wr : List Addr} {G : Array GenState → Array GenState → Prop} {n : Nat} {P : Nat → Value → Prop} {Wt : Nat → Shared → Prop}
theorem set_unlike_loop (W : WalksS prog w A.in1 J fp wr G n P Wt) (Z : Addr) (out : Z ∉ fp) (ks : List Str) (hnd : ks.Nodup) (hks : ks.length = n) (isk : ∀ i v, P i v → ∃ x t, ks[i]? = some x ∧ v = .str x t) (room : n + 1 < scanBound) :
    ∀ (d i : Nat) (s : Shared), n - i = d → i ≤ n → Wt i s → (∃ D, TxR prog w s.heap Z D (ks.take i).reverse) →
      (∀ s', Moved (Z :: wr) G s s' → (∃ D, TxR prog w s'.heap Z D ks.reverse) → R (.ok (.ret .none)) s') →
      codeAny (model prog w) A (.builtin "set.update.loop" ⟨[.ref Z, .ref J], []⟩) R s := by
  have zw : Z ∉ wr := fun q => out (W.sub _ q)
  have up : ∀ b ∈ wr, b ∈ Z :: wr := fun b q => List.mem_cons_of_mem _ q
  have stay : ∀ {s s' : Shared} {l : List Str}, Moved wr G s s' → (∃ D, TxR prog w s.heap Z D l) → ∃ D, TxR prog w s'.heap Z D l := fun mv ⟨D, h⟩ => ⟨D, mv.heap Z _ zw h.ob, h.tx, h.ris, h.led⟩
  intro d
  induction d with
  | zero =>
    intro i s hd hi st hz fin
    have e : i = n := by omega
    subst e
    refine codeAny_builtin PyProof.Rows.F.entry_set_update_loop ?_
    rw [Around.under_plainId PyProof.Rows.F.plain_set_update_loop _]
    refine wpAny_bind (m := pyNext (.ref J)) (W.done s _ _ st fun s1 mv => ?_)
    refine wpAny_pure (fin s1 (mv.mono up) ?_)
    have h := stay mv hz
    rw [List.take_of_length_le (Nat.le_of_eq hks)] at h
    exact h
  | succ d ih =>
    intro i s hd hi st hz fin
    have lt : i < n := by omega
    refine codeAny_builtin PyProof.Rows.F.entry_set_update_loop ?_
    rw [Around.under_plainId PyProof.Rows.F.plain_set_update_loop _]
    refine wpAny_bind (m := pyNext (.ref J)) (W.item i s _ _ lt st fun v s1 hp st1 mv => ?_)
    obtain ⟨x, t, ex, rfl⟩ := isk i v hp
    obtain ⟨D, h1⟩ := stay mv hz
    refine wpAny_bind (m := holding [Value.str x t] (setAdd Z (.str x t))) (wpAny_holding ?_)
    unfold setAdd
    refine wpAny_holding (wpAny_bind ((strKind prog w).pyHash (k := x) (strKind_is _ _ _ _) ?_))
    have et : ks.take (i + 1) = ks.take i ++ [x] := by rw [List.take_add_one, ex]; rfl
    have hx : x ∉ (ks.take i).reverse := fun q => by
      have hn2 : (ks.take (i + 1)).Nodup := hnd.sublist (List.take_sublist _ _)
      rw [et] at hn2
      exact (List.nodup_append.mp hn2).2.2 x (List.mem_reverse.mp q) x (by simp) rfl
    have hl : (ks.take i).reverse.length + 1 < scanBound := by rw [List.length_reverse, List.length_take]; omega
    refine add_x (s := { s1 with toks := s1.toks + 1 }) (D := D) (l := (ks.take i).reverse) (k := x) (u := t) h1.ob h1.tx hx hl ?_
    have ob' : (s1.heap.update Z (fun _ => sObj "set" (addTx (hashStr w x) (.str x t) D))).get? Z = some (sObj "set" (addTx (hashStr w x) (.str x t) D)) := PySem.Froz.get_upd _ h1.ob rfl
    have oth : ∀ b o, b ≠ Z → s1.heap.get? b = some o → (s1.heap.update Z (fun _ => sObj "set" (addTx (hashStr w x) (.str x t) D))).get? b = some o := fun b o hb e => (Heap.get?_update_other _ _ (Ne.symm hb)).trans e
    have h3 : TxR prog w (s1.heap.update Z (fun _ => sObj "set" (addTx (hashStr w x) (.str x t) D))) Z (addTx (hashStr w x) (.str x t) D) (ks.take (i + 1)).reverse := by
      rw [et, List.reverse_append]
      exact ⟨ob', add_ok t h1.tx, addTx_ris _ _ _ h1.ris, by rw [addTx_led]; exact h1.led⟩
    refine wpAny_pure ⟨plainId_quiet PyProof.Rows.F.plain_set_update_loop _, ih (i + 1) _ (by omega) lt (W.frame _ s1 _ _ st1 (Nat.le_succ _) fun b q o e => ?_) ⟨_, h3⟩ fun s2 mv2 h4 => ?_⟩
    · exact oth b o (fun z : b = Z => out (by rw [← z]; exact q)) e
    · refine fin s2 (Moved.trans W.gtrans ((mv.mono up).then_heap (Nat.le_succ _) fun b o q e => ?_) mv2) h4
      exact oth b o (fun z : b = Z => q (by rw [z]; exact List.mem_cons_self)) e
end
section
variable {prog : Program} {w : World} {A : Around} {E : Value → Shared → Prop} {s : Shared}
def SetBackD (prog : Program) (w : World) (s : Shared) (ks : List Str) (s2 : Shared) : Prop := ∃ (h' : Heap) (tk : Nat), s2 = { s with heap := h', toks := tk } ∧ (∃ D, TxR prog w h' s.heap.objs.size D ks.reverse) ∧
  ∀ b o, b < s.heap.objs.size → s.heap.get? b = some o → h'.get? b = some o
theorem set_filledD {l : Addr} {items : Array Value} {ks : List Str} {Q : Value → Shared → Prop} (hnd : ks.Nodup) (hh : A.handled = none) (hl : s.heap.IsList l items) (hi : StrsAre items.toList ks) (room : items.size + 1 < scanBound)
    (fin : ∀ s2, SetBackD prog w s ks s2 → Q .none s2) :
    codeAny (model prog w) A (.builtin "set.update.loop" ⟨[.ref s.heap.objs.size, .ref (s.heap.objs.size + 1)], []⟩) (wants Q E) { s with heap := (s.heap.push (newSetO (!w.params.followText "set-order"))).push { cls := .type "list_iterator", data := .fields #[.ref l, .int 0 0] } } := by
  obtain ⟨ol, hol, cl, nl, dl⟩ := id hl
  have lt : l < s.heap.objs.size := Heap.lt_size hol
  have e1 : (s.heap.push (newSetO (!w.params.followText "set-order"))).objs.size = s.heap.objs.size + 1 := Heap.size_push ..
  have hl1 : (s.heap.push (newSetO (!w.params.followText "set-order"))).IsList l items := ⟨ol, Heap.get?_push_of_some _ hol, cl, nl, dl⟩
  have n1 : l ≠ s.heap.objs.size + 1 := Nat.ne_of_lt (Nat.lt_succ_of_lt lt)
  have n2 : s.heap.objs.size ∉ [s.heap.objs.size + 1, l] := by
    intro q
    rcases List.mem_cons.mp q with q | q
    · exact absurd q (Nat.ne_of_lt (Nat.lt_succ_self _))
    · exact absurd (List.mem_singleton.mp q) (Nat.ne_of_gt lt)
  have hlen : ks.length = items.size := by rw [← strs_len hi]; simp
  have isk : ∀ (i : Nat) (v : Value), items[i]? = some v → ∃ x t, ks[i]? = some x ∧ v = .str x t := fun i v q => strs_is hi i v (by rw [Array.getElem?_toList]; exact q)
  have i0 : ((s.heap.push (newSetO (!w.params.followText "set-order"))).push { cls := .type "list_iterator", data := .fields #[.ref l, .int 0 0] }).IsListIter (s.heap.objs.size + 1) l 0 := ⟨_, by rw [← e1]; exact Heap.get?_push_size _ rfl, rfl, rfl⟩
  refine set_unlike_loop ((Walks.list (A := A.in1) (show A.in1.handled = none from hh) (s.heap.objs.size + 1) l n1 items).toS) s.heap.objs.size n2 ks hnd hlen isk room (items.size - 0) 0 _ (by omega) (Nat.zero_le _) ⟨i0, hl1.push _⟩ ?_ fun s2 mv hz => ?_
  · have hg : ((s.heap.push (newSetO (!w.params.followText "set-order"))).push { cls := .type "list_iterator", data := .fields #[.ref l, .int 0 0] }).get? s.heap.objs.size = some (newSetO (!w.params.followText "set-order")) := Heap.get?_push_of_some _ (Heap.get?_push_size _ rfl)
    refine ⟨(#[], 0, .fresh 0 0 (!w.params.followText "set-order")), hg, TxOk.nil (by rfl), List.Pairwise.nil, ?_⟩
    show _ ∨ (!w.params.followText "set-order") = true
    cases w.params.followText "set-order"
    · exact .inr rfl
    · exact .inl rfl
  · obtain ⟨h2, g2, d2, tk2, os2⟩ := s2
    have eg : g2 = s.gens := mv.gens
    have ed : d2 = s.drawn := mv.drawn
    have eo : os2 = s.os := mv.os
    subst eg ed eo
    refine fin _ ⟨h2, tk2, rfl, hz, fun b o q e => mv.heap b o ?_ (Heap.get?_push_of_some _ (Heap.get?_push_of_some _ e))⟩
    intro m
    rcases List.mem_cons.mp m with m | m
    · exact absurd m (Nat.ne_of_lt q)
    · exact absurd (List.mem_singleton.mp m) (Nat.ne_of_lt (Nat.lt_succ_of_lt q))
theorem set_init_unlike {l : Addr} {items : Array Value} {ks : List Str} (hnd : ks.Nodup) (hh : A.handled = none) (hl : s.heap.IsList l items) (hi : StrsAre items.toList ks) (room : items.size + 1 < scanBound) :
    codeAny (model prog w) A (.call (.builtin "set.__init__") ⟨[.ref s.heap.objs.size, .ref l], []⟩) (wants (fun r s2 => r = .none ∧ SetBackD prog w s ks s2) E) { s with heap := s.heap.push (newSetO (!w.params.followText "set-order")) } := by
  have hS : (s.heap.push (newSetO (!w.params.followText "set-order"))).get? s.heap.objs.size = some (newSetO (!w.params.followText "set-order")) := Heap.get?_push_size _ rfl
  have hT : Shared.TypeIs { s with heap := s.heap.push (newSetO (!w.params.followText "set-order")) } (.ref s.heap.objs.size) "set" := ⟨_, hS, rfl⟩
  refine codeAny_call_builtin PySem.F.called_set.init.plain PySem.F.entry_set_init (check_set_init_1 hT ?_)
  obtain ⟨⟨oc, od, odt, osl⟩, hol, cl, nl, dl⟩ := id hl
  simp only at cl dl
  subst cl dl
  have hol' : (s.heap.push (newSetO (!w.params.followText "set-order"))).get? l = some ⟨.type "list", od, .seq items nl, osl⟩ := Heap.get?_push_of_some _ hol
  have t1 := PySem.F.sub_list_set
  have t2 := PySem.F.sub_list_frozenset
  have t3 : (Value.type "list" == Value.type "dict") = false := by decide
  have hl1 : (s.heap.push (newSetO (!w.params.followText "set-order"))).IsList l items := ⟨_, hol', rfl, nl, rfl⟩
  have e1 : (s.heap.push (newSetO (!w.params.followText "set-order"))).objs.size = s.heap.objs.size + 1 := Heap.size_push ..
  unfold Builtin.«set.__init__» noKeywords Builtin.Frozenset.updateFrom
  generalize hPI : pyIter = PI
  wp_walk
  subst hPI
  refine wpAny_pyIter_list hl1 (wpAny_bind (wpAny_runValue ?_))
  rw [e1]
  refine set_filledD hnd hh hl hi room fun s2 z => ?_
  obtain ⟨h2, tk2, rfl, _⟩ := id z
  refine wpAny_pure ?_
  exact wpAny_pure ⟨rfl, z⟩
theorem call_set_unlike {l : Addr} {items : Array Value} {ks : List Str} {Q : Value → Shared → Prop} (hnd : ks.Nodup) (hh : A.handled = none) (hl : s.heap.IsList l items) (hi : StrsAre items.toList ks) (room : items.size + 1 < scanBound)
    (fin : ∀ s2, SetBackD prog w s ks s2 → Q (.ref s.heap.objs.size) s2) : wpAny (model prog w) A (call (.type "set") [.ref l]) Q E s := by
  obtain ⟨c, tl, hmro⟩ := PySem.F.called_set.mro
  have m1 := PySem.F.called_set.made
  have m2 := PySem.F.called_set.sub
  refine wpAny_call (codeAny_of_tree ?_)
  show wpAny _ _ (callAny (.type "set") _) _ _ _
  refine wpAny_pure ⟨Code.quiet_builtin _ (by decide +kernel), codeAny_builtin PySem.F.entry_type_call ?_⟩
  rw [Around.under_plain (weight_type_call_type "set" [.ref l] []) rfl]
  have m3 := PySem.F.called_set.notType
  have m4 := PySem.F.called_set.canCreate
  have m5 := PySem.F.typeCall_set_1 (.ref l)
  repeat (any_goals (first | assumption | wp_step))
  refine codeAny_mono (code_set_led1 (.ref l) (E := E) (Q₁ := fun obj s1 => obj = .ref s.heap.objs.size ∧ s1 = { s with heap := s.heap.push (newSetO (!w.params.followText "set-order")) }) ⟨rfl, rfl⟩) fun r s1 hr => ?_
  cases r with
  | error e => exact hr
  | ok fl =>
    cases fl with
    | ret obj =>
      obtain ⟨rfl, rfl⟩ := hr
      have hT : Shared.TypeIs { s with heap := s.heap.push (newSetO (!w.params.followText "set-order")) } (.ref s.heap.objs.size) "set" := ⟨_, Heap.get?_push_size _ rfl, rfl⟩
      have m6 := PySem.F.called_set.init.lookup
      have m7 := PySem.F.called_set.init.bind (.ref s.heap.objs.size)
      repeat (any_goals (first | assumption | wp_step))
      refine codeAny_mono (set_init_unlike (E := E) (s := s) hnd (by first | exact hh | simp [hh]) hl hi room) fun r2 s2 hr2 => ?_
      cases r2 with
      | error e => exact hr2
      | ok fl2 =>
        cases fl2 with
        | ret r =>
          obtain ⟨rfl, z⟩ := hr2
          have f := fin s2 z
          obtain ⟨h2, tk2, rfl, z⟩ := z
          repeat (any_goals (first | assumption | wp_step))
        | _ => exact hr2.elim
    | _ => exact hr.elim
end
end Five
end
section
namespace Five
open PySem PySem.Spec PyProof.Rows L2 PySem.W
open PySem.Froz (SD sObj tailTx addTx TxOk add_ok add_x)
theorem perm_of_sub {α : Type} [DecidableEq α] : ∀ {a b : List α}, a.Nodup → (∀ x ∈ a, x ∈ b) → b.length ≤ a.length → a.Perm b
  | [], b, _, _, hl => by
    have : b = [] := List.length_eq_zero_iff.mp (Nat.le_zero.mp hl)
    rw [this]
  | x :: a, b, hn, hs, hl => by
    obtain ⟨h1, h2⟩ := List.nodup_cons.mp hn
    have hx := hs x List.mem_cons_self
    have p := List.perm_cons_erase hx
    refine ((perm_of_sub h2 (fun y hy => ?_) ?_).cons x).trans p.symm
    · exact (List.mem_erase_of_ne fun e : y = x => h1 (by rw [← e]; exact hy)).mpr (hs y (List.mem_cons_of_mem _ hy))
    · rw [List.length_erase_of_mem hx]
      rw [List.length_cons] at hl
      omega
def txtOf : Value → Str
  | .str k _ => k
  | _ => Str.empty
theorem strs_map : ∀ {vs : List Value}, (∀ v ∈ vs, ∃ k u, v = .str k u) → StrsAre vs (vs.map txtOf)
  | [], _ => .nil
  | v :: vs, h => by
    obtain ⟨k, u, rfl⟩ := h v List.mem_cons_self
    exact .cons k u (strs_map fun v hv => h v (List.mem_cons_of_mem _ hv))
theorem strs_each {vs : List Value} {ks : List Str} (h : StrsAre vs ks) : EachIs (fun v (k : Str) => ∃ u, v = .str k u) vs ks := by
  induction h with
  | nil => exact .nil
  | cons y t h ih => exact .cons ⟨t, rfl⟩ ih
theorem each_strs {vs : List Value} {ks : List Str} (h : EachIs (fun v (k : Str) => ∃ u, v = .str k u) vs ks) : StrsAre vs ks := by
  induction h with
  | nil => exact .nil
  | cons h t ih =>
    obtain ⟨u, rfl⟩ := h
    exact .cons _ u ih
section
variable {prog : Program} {w : World} {A : Around} {E : Value → Shared → Prop} {s : Shared}
theorem sorted_unlike {a : Addr} {D : SD} {l : List Str} {Q : Value → Shared → Prop} (R : TxR prog w s.heap a D l) (hn : l.Nodup) (hb : l.length ≤ 4000) (hh : A.handled = none) (hu : A.units + 8 < cLine)
    (hQ : ∀ s' p (out : Array Value) (c : Nat), (∀ b o, s.heap.get? b = some o → s'.heap.get? b = some o) → s'.gens = s.gens → s'.os = s.os → s.heap.objs.size ≤ p →
      s'.heap.get? p = some (seqObj "list" out c) → StrsAre out.toList (srt l) → Q (.ref p) s') :
    wpAny (model prog w) A (call (.builtin "sorted") [.ref a]) Q E s := by
  obtain ⟨es, ep, t⟩ := D
  have hsz : es.size = l.length := R.tx.sz
  have hsc : es.size < scanBound := by unfold scanBound; omega
  refine Calls.call_function_entry kind_sorted plain_sorted entry_sorted (args_sorted1 _) ?_
  unfold Builtin.«sorted»
  refine wpAny_bind (m := checkCount "sorted" 1 1 _) (wpAny_pure ?_)
  refine wpAny_bind (collect_set (A := A.in1) hh ⟨_, R.ob, rfl, rfl⟩ R.tx.fit hsc R.ris R.led fun s1 vs k1 hz g1 o1 pm => ?_)
  have hstr : ∀ v ∈ vs, ∃ k u, v = .str k u := fun v hv => by
    obtain ⟨e, he, q⟩ := List.mem_map.mp (pm.mem_iff.mp hv)
    obtain ⟨⟨k, hk, _⟩, _⟩ := R.tx.el e he
    rw [q] at hk
    have hk : Value.isStrOf k v = true := hk
    cases v with
    | str y u => exact ⟨y, u, rfl⟩
    | _ => exact absurd hk (by simp [Value.isStrOf])
  have hS := strs_map hstr
  have hvl : vs.length = l.length := by rw [pm.length_eq, List.length_map, Array.length_toList]; exact hsz
  have pl : l.Perm (vs.map txtOf) := by
    refine perm_of_sub hn (fun k hk => ?_) (by rw [List.length_map, hvl]; exact Nat.le_refl _)
    obtain ⟨e, he, q⟩ := (R.tx.mem k).mp hk
    have hv : e.2 ∈ vs := pm.mem_iff.mpr (List.mem_map.mpr ⟨e, he, rfl⟩)
    obtain ⟨y, u, ey⟩ := hstr _ hv
    refine List.mem_map.mpr ⟨_, hv, ?_⟩
    rw [ey] at q ⊢
    exact (PySem.strKind prog w).inj (.str y u) _ _ (PySem.Froz.is_str y u) q
  refine wpAny_bind (wpAny_newList ?_ (by rw [hvl, sizeLine_eq]; omega))
  have hoL : (s1.heap.push (seqObj "list" vs.toArray 0)).get? s1.heap.objs.size = some (seqObj "list" vs.toArray 0) := Heap.get?_push_size _ rfl
  refine wpAny_bind (wpAny_holding (list_sort_data (s := { s1 with heap := s1.heap.push (seqObj "list" vs.toArray 0) }) (bs := vs.map txtOf) (enc := PyData.str) (R := fun v (k : Str) => ∃ u, v = .str k u) hoL (strs_each hS) ?_ ?_ ?_ ?_ ?_ fun out ho eo => ?_))
  · refine (strs_each hS).mono fun v k ⟨u, e⟩ => ⟨[], ?_, by simp⟩
    rw [e]
    exact .str _ _
  · exact AllAlike.of fun b b' => by simp [PySem.W.alike]
  · exact Sortable.others fun b => ⟨fun z => (nomatch z), fun _ z => (nomatch z)⟩
  · rw [List.length_map, hvl, sizeLine_eq]; omega
  · intro b hb
    show A.units + 1 + 1 + 0 < cLine
    omega
  · obtain ⟨c, hc⟩ := sortedHeap_at (vs := vs) (out := out.toArray) hoL
    have e : (vs.map txtOf).mergeSort (dataLe false PyData.str) = srt l := by
      rw [srt_congr pl]
      unfold srt
      congr 1
      funext x y
      show (!dataLt (.str y) (.str x)) = leD x y
      rw [PySem.W.dataLt_str]
      rfl
    rw [e] at eo
    refine wpAny_pure ⟨_, rfl, hQ _ s1.heap.objs.size out.toArray c (fun b u e => ?_) g1 o1 hz hc (by simpa using each_strs eo)⟩
    have q := k1 b u e
    have hlt := Heap.lt_size q
    show (sortedHeap (s1.heap.push (seqObj "list" vs.toArray 0)) s1.heap.objs.size vs out.toArray).get? b = some u
    rw [sortedHeap_old (Nat.ne_of_lt hlt) (by rw [size_push']; exact Nat.lt_succ_of_lt hlt)]
    exact Heap.get?_push_of_some _ q
end
/-- sorted(set(xs)), xs unlike -/
def tSrtSetS (K : PySem.W.Frag) (ta : TE) : TE := fun σ H Q => ta σ H fun x H1 => ∃ (l : Addr) (xs : List Str), x = .ref l ∧ SqL K H1 l (xs.map V.str) ∧ xs.Nodup ∧ xs.length ≤ 4000 ∧ ∀ p, H1 p = none → Q (.ref p) (upd H1 p (.lst ((srt xs).map V.str)))
theorem pe_srtSetS {X : Cx} {K : PySem.W.Frag} {a : Expr} {ta : TE} {p p2 q pos : Pos} (hu : X.A.units + 64 < cLine) (hg : Gl X "sorted") (hm : X.mg "sorted" = none) (hg2 : Gl X "set") (hm2 : X.mg "set" = none) (ha : PE X a ta) (hc : X.calm = true := by rfl)
    (na : starEach [a] X.env = (false, eval a X.env) :: starEach [] X.env := by rfl) (hK : X.K = K := by rfl) : PE X (.Call (.Name "sorted" p) [.Call (.Name "set" p2) [a] [] q] [] pos) (tSrtSetS K ta) := by
  subst hK
  refine ⟨fun pins s σ H Q I h => ?_⟩
  refine Call_ (ld_blt I hg hm boot_sorted (PyProof.Rows.callWith_builtin1 (PyProof.Rows.args_cons ?_ rfl) rfl rfl))
  refine Call_ (ld_blt I hg2 hm2 boot_set (PyProof.Rows.callWith_type1 (PyProof.Rows.args_cons (thn (ha.run pins s σ H _ I h) fun v s1 ⟨x, H1, I1, r1, q1⟩ => PyProof.Rows.args_nil ?_) na) na rfl))
  obtain ⟨l, xs, rfl, hq, hn, h4, q1⟩ := q1
  cases r1
  obtain ⟨its, r, pl, hz⟩ := I1.list hq
  have hi : StrsAre its xs := strsAre_of r
  have hsz : its.toArray.size = xs.length := by rw [List.size_toArray, strs_len hi]
  refine call_set_unlike hn (I1.ok.hd hc) pl.isList (by simpa using hi) (by rw [hsz]; unfold scanBound; omega) fun s2 z => PyProof.Rows.args_nil ?_
  obtain ⟨h2, tk2, rfl, ⟨D, R⟩, hk⟩ := z
  have I2 : L2.Inv X pins σ H1 { s1 with heap := h2, toks := tk2 } := I1.kept fun b o e => hk b o (Heap.lt_size e) e
  refine sorted_unlike R ((List.reverse_perm xs).nodup_iff.mpr hn) (by rw [List.length_reverse]; exact h4) (I2.ok.hd hc) (by omega) fun s' pp out c k1 g1 o1 hp hg hS => ?_
  rw [srt_congr (List.reverse_perm xs)] at hS
  have hlen : ((srt xs).map V.str).length ≤ sizeLine := by rw [List.length_map, srt_length, sizeLine_eq]; omega
  have hvals : Vals ((srt xs).map V.str) out.toList := by
    clear hk hg
    generalize out.toList = o at hS
    generalize srt xs = m at hS
    clear hlen
    induction hS with
    | nil => exact .nil
    | cons y t h ih => exact .cons ⟨t, rfl⟩ ih
  have k2 : ∀ b o, s1.heap.get? b = some o → s'.heap.get? b = some o := fun b o e => k1 b o (hk b o (Heap.lt_size e) e)
  have hp2 : s1.heap.objs.size ≤ pp := Nat.le_trans (Nat.le_of_lt (Heap.lt_size R.ob)) hp
  have hn2 : H1 pp = none := I1.hok.fresh hp2
  have J : L2.Inv X pins σ (upd H1 pp (.lst ((srt xs).map V.str))) { s1 with heap := s'.heap, gens := s'.gens, drawn := s'.drawn, toks := s'.toks } :=
    I1.call (ch := []) (Un.laid k2 hp2 hn2) (I1.hok.laid k2 hp2 ⟨hlen, out.toList, c, hvals, hg⟩) (by rw [g1]; exact I1.bare) (fun _ z => nomatch z)
  have e : s' = { s1 with heap := s'.heap, gens := s'.gens, drawn := s'.drawn, toks := s'.toks } := by
    cases s'
    cases s1
    cases o1
    rfl
  rw [e]
  exact ⟨.ref pp, _, J, rfl, q1 pp hn2⟩
end Five
end
section
namespace Five
open PySem PySem.Spec PyProof.Rows L2 PySem.W
open PySem.Froz (SD sObj tailTx addTx TxOk add_ok add_x is_str)
/-! sorted(set(xs)), any texts -/
def acc (l : List Str) (x : Str) : List Str := if x ∈ l then l else x :: l
def accs (l : List Str) : List Str := l.foldl acc []
theorem accs_snoc (l : List Str) (x : Str) : accs (l ++ [x]) = acc (accs l) x := by unfold accs; rw [List.foldl_append]; rfl
theorem acc_mem {l : List Str} {x y : Str} : y ∈ acc l x ↔ y ∈ l ∨ y = x := by
  unfold acc
  split
  · next c => exact ⟨.inl, fun z => z.elim id fun e => by rw [e]; exact c⟩
  · rw [List.mem_cons]; exact ⟨Or.symm, Or.symm⟩
theorem acc_nd {l : List Str} {x : Str} (h : l.Nodup) : (acc l x).Nodup := by
  unfold acc
  split
  · exact h
  · next c => exact List.nodup_cons.mpr ⟨c, h⟩
theorem acc_len (l : List Str) (x : Str) : (acc l x).length ≤ l.length + 1 := by
  unfold acc
  split <;> simp
theorem accs_nd (l : List Str) : (accs l).Nodup := by
  unfold accs
  suffices ∀ (l a : List Str), a.Nodup → (l.foldl acc a).Nodup from this l [] .nil
  intro l
  induction l with
  | nil => exact fun a h => h
  | cons x r ih => exact fun a h => ih _ (acc_nd h)
theorem accs_mem (l : List Str) (y : Str) : y ∈ accs l ↔ y ∈ l := by
  unfold accs
  suffices ∀ (l a : List Str), y ∈ l.foldl acc a ↔ y ∈ a ∨ y ∈ l from (this l []).trans (by simp)
  intro l
  induction l with
  | nil => intro a; simp
  | cons x r ih =>
    intro a
    rw [List.foldl_cons, ih, acc_mem, List.mem_cons]
    constructor
    · rintro ((h | h) | h)
      · exact .inl h
      · exact .inr (.inl h)
      · exact .inr (.inr h)
    · rintro (h | h | h)
      · exact .inl (.inl h)
      · exact .inl (.inr h)
      · exact .inr h
theorem accs_len (l : List Str) : (accs l).length ≤ l.length := by
  unfold accs
  suffices ∀ (l a : List Str), (l.foldl acc a).length ≤ a.length + l.length from Nat.le_trans (this l []) (by simp)
  intro l
  induction l with
  | nil => intro a; simp
  | cons x r ih =>
    intro a
    have := ih (acc a x)
    have h2 := acc_len a x
    rw [List.foldl_cons, List.length_cons]
    omega
theorem accs_self {l : List Str} (h : l.Nodup) : (accs l).Perm l := perm_of_mem (accs_nd l) h (accs_mem l)
/-- rising, and each once: just the texts that sorted(set(..)) leaves -/
theorem rise_srt {l : List Str} : l = srt (accs l) ↔ l.Pairwise fun a b => a.cps.toList < b.cps.toList := by
  constructor
  · intro e
    have pw : l.Pairwise (fun a b => leD a b = true) := by rw [e]; exact srt_pw _
    have nd : l.Nodup := by
      rw [e]
      exact (srt_perm _).nodup_iff.mpr (accs_nd l)
    refine (List.Pairwise.and pw nd).imp fun {a b} ⟨h1, h2⟩ => ?_
    exact Classical.byContradiction fun q => h2 (leD_anti h1 ((leS_iff b a).mpr q))
  · intro h
    have nd : l.Nodup := List.Pairwise.imp (fun {a b} (q : a.cps.toList < b.cps.toList) (e : a = b) => List.lt_irrefl b.cps.toList (by rw [e] at q; exact q)) h
    rw [srt_congr (accs_self nd)]
    exact srt_uniq (.refl _) (h.imp fun {a b} q => (leS_iff a b).mpr fun z => List.lt_irrefl _ (List.lt_trans q z))
section
variable {P : Program} {w : World} {A : Around} {E : Value → Shared → Prop} {s : Shared}
/-- what is there stays -/
theorem add_old {a : Addr} {T : String} {D : SD} {l : List Str} {k : Str} {u : Tok} {Q : Bool → Shared → Prop} (ho : s.heap.get? a = some (sObj T D)) (F : TxOk P w D l) (hk : k ∈ l) (hb : l.length < scanBound) (h : Q false s) : wpAny (model P w) A (setAddHashed a (.str k u) (hashStr w k)) Q E s := by
  obtain ⟨es, ep, t⟩ := D
  have hd : (sObj T (es, ep, t)).data = .set es ep t := rfl
  have hkey : (strKind P w).is k (.str k u) = true := is_str k u
  have hsome : ∃ j, List.findIdx? (fun e => (strKind P w).is k e.2) es.toList = some j := by
    obtain ⟨e, he, q⟩ := (F.mem k).mp hk
    cases hr : List.findIdx? (fun e => (strKind P w).is k e.2) es.toList with
    | some j => exact ⟨j, rfl⟩
    | none =>
      have := List.findIdx?_eq_none_iff.mp hr e he
      rw [q] at this
      cases this
  obtain ⟨j, hj⟩ := hsome
  have hb0 : es.size < scanBound := by rw [show es.size = l.length from F.sz]; exact hb
  unfold setAddHashed setAddHashedIn
  refine wpAny_holding (wpAny_bind (wpAny_setState_of ho hd F.fit ?_))
  dsimp only
  rw [byScan_of rfl hb0 F.el]
  simp only [↓reduceIte]
  unfold setAddByScan
  refine wpAny_bind ?_
  refine wpAny_bind (wpAny_rule ?_)
  refine wpAny_bind (wpAny_setScan_of (knd := strKind P w) (k := k) hkey ho hd F.fit F.el ?_)
  rw [hj]
  dsimp only
  first
  | exact wpAny_pure (wpAny_pure h)
  | exact wpAny_pure h
end
section
variable {prog : Program} {w : World} {A : Around} {R : Result → Shared → Prop} {J : Addr} {fp wr : List Addr} {G : Array GenState → Array GenState → Prop} {n : Nat} {P : Nat → Value → Prop} {Wt : Nat → Shared → Prop}
theorem set_any_loop (W : WalksS prog w A.in1 J fp wr G n P Wt) (Z : Addr) (out : Z ∉ fp) (ks : List Str) (hks : ks.length = n) (isk : ∀ i v, P i v → ∃ x t, ks[i]? = some x ∧ v = .str x t) (room : n + 1 < scanBound) :
    ∀ (d i : Nat) (s : Shared), n - i = d → i ≤ n → Wt i s → (∃ D, TxR prog w s.heap Z D (accs (ks.take i))) →
      (∀ s', Moved (Z :: wr) G s s' → (∃ D, TxR prog w s'.heap Z D (accs ks)) → R (.ok (.ret .none)) s') →
      codeAny (model prog w) A (.builtin "set.update.loop" ⟨[.ref Z, .ref J], []⟩) R s := by
  have zw : Z ∉ wr := fun q => out (W.sub _ q)
  have up : ∀ b ∈ wr, b ∈ Z :: wr := fun b q => List.mem_cons_of_mem _ q
  have stay : ∀ {s s' : Shared} {l : List Str}, Moved wr G s s' → (∃ D, TxR prog w s.heap Z D l) → ∃ D, TxR prog w s'.heap Z D l := fun mv ⟨D, h⟩ => ⟨D, mv.heap Z _ zw h.ob, h.tx, h.ris, h.led⟩
  intro d
  induction d with
  | zero =>
    intro i s hd hi st hz fin
    have e : i = n := by omega
    subst e
    refine codeAny_builtin PyProof.Rows.F.entry_set_update_loop ?_
    rw [Around.under_plainId PyProof.Rows.F.plain_set_update_loop _]
    refine wpAny_bind (m := pyNext (.ref J)) (W.done s _ _ st fun s1 mv => ?_)
    refine wpAny_pure (fin s1 (mv.mono up) ?_)
    have h := stay mv hz
    rw [List.take_of_length_le (Nat.le_of_eq hks)] at h
    exact h
  | succ d ih =>
    intro i s hd hi st hz fin
    have lt : i < n := by omega
    refine codeAny_builtin PyProof.Rows.F.entry_set_update_loop ?_
    rw [Around.under_plainId PyProof.Rows.F.plain_set_update_loop _]
    refine wpAny_bind (m := pyNext (.ref J)) (W.item i s _ _ lt st fun v s1 hp st1 mv => ?_)
    obtain ⟨x, t, ex, rfl⟩ := isk i v hp
    obtain ⟨D, h1⟩ := stay mv hz
    refine wpAny_bind (m := holding [Value.str x t] (setAdd Z (.str x t))) (wpAny_holding ?_)
    unfold setAdd
    refine wpAny_holding (wpAny_bind ((strKind prog w).pyHash (k := x) (strKind_is _ _ _ _) ?_))
    have et : ks.take (i + 1) = ks.take i ++ [x] := by rw [List.take_add_one, ex]; rfl
    have hl : (accs (ks.take i)).length + 1 < scanBound := by
      have := accs_len (ks.take i)
      rw [List.length_take] at this
      omega
    have e1 : accs (ks.take (i + 1)) = acc (accs (ks.take i)) x := by rw [et, accs_snoc]
    by_cases hx : x ∈ accs (ks.take i)
    · refine add_old (s := { s1 with toks := s1.toks + 1 }) (D := D) (l := accs (ks.take i)) (k := x) (u := t) h1.ob h1.tx hx (by omega) ?_
      have h3 : TxR prog w s1.heap Z D (accs (ks.take (i + 1))) := by
        rw [e1]
        unfold acc
        rw [if_pos hx]
        exact h1
      refine wpAny_pure ⟨plainId_quiet PyProof.Rows.F.plain_set_update_loop _, ih (i + 1) _ (by omega) lt (W.frame _ s1 _ _ st1 (Nat.le_succ _) fun b q o e => e) ⟨_, h3⟩ fun s2 mv2 h4 => ?_⟩
      refine fin s2 (Moved.trans W.gtrans ((mv.mono up).then_heap (Nat.le_succ _) fun b o q e => e) mv2) h4
    refine add_x (s := { s1 with toks := s1.toks + 1 }) (D := D) (l := accs (ks.take i)) (k := x) (u := t) h1.ob h1.tx hx hl ?_
    have ob' : (s1.heap.update Z (fun _ => sObj "set" (addTx (hashStr w x) (.str x t) D))).get? Z = some (sObj "set" (addTx (hashStr w x) (.str x t) D)) := PySem.Froz.get_upd _ h1.ob rfl
    have oth : ∀ b o, b ≠ Z → s1.heap.get? b = some o → (s1.heap.update Z (fun _ => sObj "set" (addTx (hashStr w x) (.str x t) D))).get? b = some o := fun b o hb e => (Heap.get?_update_other _ _ (Ne.symm hb)).trans e
    have h3 : TxR prog w (s1.heap.update Z (fun _ => sObj "set" (addTx (hashStr w x) (.str x t) D))) Z (addTx (hashStr w x) (.str x t) D) (accs (ks.take (i + 1))) := by
      rw [e1]
      unfold acc
      rw [if_neg hx]
      exact ⟨ob', add_ok t h1.tx, addTx_ris _ _ _ h1.ris, by rw [addTx_led]; exact h1.led⟩
    refine wpAny_pure ⟨plainId_quiet PyProof.Rows.F.plain_set_update_loop _, ih (i + 1) _ (by omega) lt (W.frame _ s1 _ _ st1 (Nat.le_succ _) fun b q o e => ?_) ⟨_, h3⟩ fun s2 mv2 h4 => ?_⟩
    · exact oth b o (fun z : b = Z => out (by rw [← z]; exact q)) e
    · refine fin s2 (Moved.trans W.gtrans ((mv.mono up).then_heap (Nat.le_succ _) fun b o q e => ?_) mv2) h4
      exact oth b o (fun z : b = Z => q (by rw [z]; exact List.mem_cons_self)) e
end
section
variable {prog : Program} {w : World} {A : Around} {E : Value → Shared → Prop} {s : Shared}
def SetBackA (prog : Program) (w : World) (s : Shared) (ks : List Str) (s2 : Shared) : Prop := ∃ (h' : Heap) (tk : Nat), s2 = { s with heap := h', toks := tk } ∧ (∃ D, TxR prog w h' s.heap.objs.size D (accs ks)) ∧
  ∀ b o, b < s.heap.objs.size → s.heap.get? b = some o → h'.get? b = some o
theorem set_filledA {l : Addr} {items : Array Value} {ks : List Str} {Q : Value → Shared → Prop} (hh : A.handled = none) (hl : s.heap.IsList l items) (hi : StrsAre items.toList ks) (room : items.size + 1 < scanBound)
    (fin : ∀ s2, SetBackA prog w s ks s2 → Q .none s2) :
    codeAny (model prog w) A (.builtin "set.update.loop" ⟨[.ref s.heap.objs.size, .ref (s.heap.objs.size + 1)], []⟩) (wants Q E) { s with heap := (s.heap.push (newSetO (!w.params.followText "set-order"))).push { cls := .type "list_iterator", data := .fields #[.ref l, .int 0 0] } } := by
  obtain ⟨ol, hol, cl, nl, dl⟩ := id hl
  have lt : l < s.heap.objs.size := Heap.lt_size hol
  have e1 : (s.heap.push (newSetO (!w.params.followText "set-order"))).objs.size = s.heap.objs.size + 1 := Heap.size_push ..
  have hl1 : (s.heap.push (newSetO (!w.params.followText "set-order"))).IsList l items := ⟨ol, Heap.get?_push_of_some _ hol, cl, nl, dl⟩
  have n1 : l ≠ s.heap.objs.size + 1 := Nat.ne_of_lt (Nat.lt_succ_of_lt lt)
  have n2 : s.heap.objs.size ∉ [s.heap.objs.size + 1, l] := by
    intro q
    rcases List.mem_cons.mp q with q | q
    · exact absurd q (Nat.ne_of_lt (Nat.lt_succ_self _))
    · exact absurd (List.mem_singleton.mp q) (Nat.ne_of_gt lt)
  have hlen : ks.length = items.size := by rw [← strs_len hi]; simp
  have isk : ∀ (i : Nat) (v : Value), items[i]? = some v → ∃ x t, ks[i]? = some x ∧ v = .str x t := fun i v q => strs_is hi i v (by rw [Array.getElem?_toList]; exact q)
  have i0 : ((s.heap.push (newSetO (!w.params.followText "set-order"))).push { cls := .type "list_iterator", data := .fields #[.ref l, .int 0 0] }).IsListIter (s.heap.objs.size + 1) l 0 := ⟨_, by rw [← e1]; exact Heap.get?_push_size _ rfl, rfl, rfl⟩
  refine set_any_loop ((Walks.list (A := A.in1) (show A.in1.handled = none from hh) (s.heap.objs.size + 1) l n1 items).toS) s.heap.objs.size n2 ks hlen isk room (items.size - 0) 0 _ (by omega) (Nat.zero_le _) ⟨i0, hl1.push _⟩ ?_ fun s2 mv hz => ?_
  · have hg : ((s.heap.push (newSetO (!w.params.followText "set-order"))).push { cls := .type "list_iterator", data := .fields #[.ref l, .int 0 0] }).get? s.heap.objs.size = some (newSetO (!w.params.followText "set-order")) := Heap.get?_push_of_some _ (Heap.get?_push_size _ rfl)
    refine ⟨(#[], 0, .fresh 0 0 (!w.params.followText "set-order")), hg, TxOk.nil (by rfl), List.Pairwise.nil, ?_⟩
    show _ ∨ (!w.params.followText "set-order") = true
    cases w.params.followText "set-order"
    · exact .inr rfl
    · exact .inl rfl
  · obtain ⟨h2, g2, d2, tk2, os2⟩ := s2
    have eg : g2 = s.gens := mv.gens
    have ed : d2 = s.drawn := mv.drawn
    have eo : os2 = s.os := mv.os
    subst eg ed eo
    refine fin _ ⟨h2, tk2, rfl, hz, fun b o q e => mv.heap b o ?_ (Heap.get?_push_of_some _ (Heap.get?_push_of_some _ e))⟩
    intro m
    rcases List.mem_cons.mp m with m | m
    · exact absurd m (Nat.ne_of_lt q)
    · exact absurd (List.mem_singleton.mp m) (Nat.ne_of_lt (Nat.lt_succ_of_lt q))
theorem set_init_any {l : Addr} {items : Array Value} {ks : List Str} (hh : A.handled = none) (hl : s.heap.IsList l items) (hi : StrsAre items.toList ks) (room : items.size + 1 < scanBound) :
    codeAny (model prog w) A (.call (.builtin "set.__init__") ⟨[.ref s.heap.objs.size, .ref l], []⟩) (wants (fun r s2 => r = .none ∧ SetBackA prog w s ks s2) E) { s with heap := s.heap.push (newSetO (!w.params.followText "set-order")) } := by
  have hS : (s.heap.push (newSetO (!w.params.followText "set-order"))).get? s.heap.objs.size = some (newSetO (!w.params.followText "set-order")) := Heap.get?_push_size _ rfl
  have hT : Shared.TypeIs { s with heap := s.heap.push (newSetO (!w.params.followText "set-order")) } (.ref s.heap.objs.size) "set" := ⟨_, hS, rfl⟩
  refine codeAny_call_builtin PySem.F.called_set.init.plain PySem.F.entry_set_init (check_set_init_1 hT ?_)
  obtain ⟨⟨oc, od, odt, osl⟩, hol, cl, nl, dl⟩ := id hl
  simp only at cl dl
  subst cl dl
  have hol' : (s.heap.push (newSetO (!w.params.followText "set-order"))).get? l = some ⟨.type "list", od, .seq items nl, osl⟩ := Heap.get?_push_of_some _ hol
  have t1 := PySem.F.sub_list_set
  have t2 := PySem.F.sub_list_frozenset
  have t3 : (Value.type "list" == Value.type "dict") = false := by decide
  have hl1 : (s.heap.push (newSetO (!w.params.followText "set-order"))).IsList l items := ⟨_, hol', rfl, nl, rfl⟩
  have e1 : (s.heap.push (newSetO (!w.params.followText "set-order"))).objs.size = s.heap.objs.size + 1 := Heap.size_push ..
  unfold Builtin.«set.__init__» noKeywords Builtin.Frozenset.updateFrom
  generalize hPI : pyIter = PI
  wp_walk
  subst hPI
  refine wpAny_pyIter_list hl1 (wpAny_bind (wpAny_runValue ?_))
  rw [e1]
  refine set_filledA hh hl hi room fun s2 z => ?_
  obtain ⟨h2, tk2, rfl, _⟩ := id z
  refine wpAny_pure ?_
  exact wpAny_pure ⟨rfl, z⟩
theorem call_set_any {l : Addr} {items : Array Value} {ks : List Str} {Q : Value → Shared → Prop} (hh : A.handled = none) (hl : s.heap.IsList l items) (hi : StrsAre items.toList ks) (room : items.size + 1 < scanBound)
    (fin : ∀ s2, SetBackA prog w s ks s2 → Q (.ref s.heap.objs.size) s2) : wpAny (model prog w) A (call (.type "set") [.ref l]) Q E s := by
  obtain ⟨c, tl, hmro⟩ := PySem.F.called_set.mro
  have m1 := PySem.F.called_set.made
  have m2 := PySem.F.called_set.sub
  refine wpAny_call (codeAny_of_tree ?_)
  show wpAny _ _ (callAny (.type "set") _) _ _ _
  refine wpAny_pure ⟨Code.quiet_builtin _ (by decide +kernel), codeAny_builtin PySem.F.entry_type_call ?_⟩
  rw [Around.under_plain (weight_type_call_type "set" [.ref l] []) rfl]
  have m3 := PySem.F.called_set.notType
  have m4 := PySem.F.called_set.canCreate
  have m5 := PySem.F.typeCall_set_1 (.ref l)
  repeat (any_goals (first | assumption | wp_step))
  refine codeAny_mono (code_set_led1 (.ref l) (E := E) (Q₁ := fun obj s1 => obj = .ref s.heap.objs.size ∧ s1 = { s with heap := s.heap.push (newSetO (!w.params.followText "set-order")) }) ⟨rfl, rfl⟩) fun r s1 hr => ?_
  cases r with
  | error e => exact hr
  | ok fl =>
    cases fl with
    | ret obj =>
      obtain ⟨rfl, rfl⟩ := hr
      have hT : Shared.TypeIs { s with heap := s.heap.push (newSetO (!w.params.followText "set-order")) } (.ref s.heap.objs.size) "set" := ⟨_, Heap.get?_push_size _ rfl, rfl⟩
      have m6 := PySem.F.called_set.init.lookup
      have m7 := PySem.F.called_set.init.bind (.ref s.heap.objs.size)
      repeat (any_goals (first | assumption | wp_step))
      refine codeAny_mono (set_init_any (E := E) (s := s) (by first | exact hh | simp [hh]) hl hi room) fun r2 s2 hr2 => ?_
      cases r2 with
      | error e => exact hr2
      | ok fl2 =>
        cases fl2 with
        | ret r =>
          obtain ⟨rfl, z⟩ := hr2
          have f := fin s2 z
          obtain ⟨h2, tk2, rfl, z⟩ := z
          repeat (any_goals (first | assumption | wp_step))
        | _ => exact hr2.elim
    | _ => exact hr.elim
end

/-- sorted(set(xs)), any texts -/
def tSrtSetA (K : PySem.W.Frag) (ta : TE) : TE := fun σ H Q => ta σ H fun x H1 => ∃ (l : Addr) (xs : List Str), x = .ref l ∧ SqL K H1 l (xs.map V.str) ∧ xs.length ≤ 4000 ∧ ∀ p, H1 p = none → Q (.ref p) (upd H1 p (.lst ((srt (accs xs)).map V.str)))
theorem pe_srtSetA {X : Cx} {K : PySem.W.Frag} {a : Expr} {ta : TE} {p p2 q pos : Pos} (hu : X.A.units + 64 < cLine) (hg : Gl X "sorted") (hm : X.mg "sorted" = none) (hg2 : Gl X "set") (hm2 : X.mg "set" = none) (ha : PE X a ta) (hc : X.calm = true := by rfl)
    (na : starEach [a] X.env = (false, eval a X.env) :: starEach [] X.env := by rfl) (hK : X.K = K := by rfl) : PE X (.Call (.Name "sorted" p) [.Call (.Name "set" p2) [a] [] q] [] pos) (tSrtSetA K ta) := by
  subst hK
  refine ⟨fun pins s σ H Q I h => ?_⟩
  refine Call_ (ld_blt I hg hm boot_sorted (PyProof.Rows.callWith_builtin1 (PyProof.Rows.args_cons ?_ rfl) rfl rfl))
  refine Call_ (ld_blt I hg2 hm2 boot_set (PyProof.Rows.callWith_type1 (PyProof.Rows.args_cons (thn (ha.run pins s σ H _ I h) fun v s1 ⟨x, H1, I1, r1, q1⟩ => PyProof.Rows.args_nil ?_) na) na rfl))
  obtain ⟨l, xs, rfl, hq, h4, q1⟩ := q1
  cases r1
  obtain ⟨its, r, pl, hz⟩ := I1.list hq
  have hi : StrsAre its xs := strsAre_of r
  have hsz : its.toArray.size = xs.length := by rw [List.size_toArray, strs_len hi]
  refine call_set_any (I1.ok.hd hc) pl.isList (by simpa using hi) (by rw [hsz]; unfold scanBound; omega) fun s2 z => PyProof.Rows.args_nil ?_
  obtain ⟨h2, tk2, rfl, ⟨D, R⟩, hk⟩ := z
  have I2 : L2.Inv X pins σ H1 { s1 with heap := h2, toks := tk2 } := I1.kept fun b o e => hk b o (Heap.lt_size e) e
  refine sorted_unlike R (accs_nd xs) (Nat.le_trans (accs_len xs) h4) (I2.ok.hd hc) (by omega) fun s' pp out c k1 g1 o1 hp hg hS => ?_
  have hlen : ((srt (accs xs)).map V.str).length ≤ sizeLine := by rw [List.length_map, srt_length, sizeLine_eq]; have := accs_len xs; omega
  have hvals : Vals ((srt (accs xs)).map V.str) out.toList := by
    clear hk hg
    generalize out.toList = o at hS
    generalize srt (accs xs) = m at hS
    clear hlen
    induction hS with
    | nil => exact .nil
    | cons y t h ih => exact .cons ⟨t, rfl⟩ ih
  have k2 : ∀ b o, s1.heap.get? b = some o → s'.heap.get? b = some o := fun b o e => k1 b o (hk b o (Heap.lt_size e) e)
  have hp2 : s1.heap.objs.size ≤ pp := Nat.le_trans (Nat.le_of_lt (Heap.lt_size R.ob)) hp
  have hn2 : H1 pp = none := I1.hok.fresh hp2
  have J : L2.Inv X pins σ (upd H1 pp (.lst ((srt (accs xs)).map V.str))) { s1 with heap := s'.heap, gens := s'.gens, drawn := s'.drawn, toks := s'.toks } :=
    I1.call (ch := []) (Un.laid k2 hp2 hn2) (I1.hok.laid k2 hp2 ⟨hlen, out.toList, c, hvals, hg⟩) (by rw [g1]; exact I1.bare) (fun _ z => nomatch z)
  have e : s' = { s1 with heap := s'.heap, gens := s'.gens, drawn := s'.drawn, toks := s'.toks } := by
    cases s'
    cases s1
    cases o1
    rfl
  rw [e]
  exact ⟨.ref pp, _, J, rfl, q1 pp hn2⟩
end Five
end
section
namespace Five
open PySem PySem.Spec PyProof.Rows L2 PySem.W
open PySem.Froz (SD sObj tailTx addTx TxOk add_ok add_x is_str)
/-! sets of a dict's keys or of a list's texts; whether two sets differ -/
theorem mix_scan {k : Key} {v : Value} (h : keyIs k v = true) : v.scannable = true := by
  rcases keyIs_shape h with ⟨i, t, _, rfl⟩ | ⟨x, t, _, rfl⟩ <;> rfl
theorem mix_quiet {k : Key} {v : Value} (h : keyIs k v = true) : Builtin.Frozenset.quietEq v = pure true := by
  rcases keyIs_shape h with ⟨i, t, _, rfl⟩ | ⟨x, t, _, rfl⟩ <;> rfl
def inK (l : List Key) (k : Key) : Bool := l.any fun x => decide (k = x)
theorem inK_iff {l : List Key} {k : Key} : inK l k = true ↔ k ∈ l := by
  unfold inK
  rw [List.any_eq_true]
  constructor
  · rintro ⟨x, h, e⟩
    rw [of_decide_eq_true e]
    exact h
  · exact fun h => ⟨k, h, decide_eq_true rfl⟩
theorem inK_no {l : List Key} {k : Key} (h : k ∉ l) : inK l k = false := by
  rw [Bool.eq_false_iff]
  exact fun z => h (inK_iff.mp z)
theorem inK_snoc {l : List Key} {k x : Key} : inK (l ++ [x]) k = (inK l k || decide (k = x)) := by
  unfold inK
  rw [List.any_append, List.any_cons, List.any_nil, Bool.or_false]
theorem nd_at {α : Type} {l : List α} (hn : l.Nodup) {i j : Nat} {x : α} (h1 : l[i]? = some x) (h2 : l[j]? = some x) : i = j := by
  obtain ⟨a1, a2⟩ := List.getElem?_eq_some_iff.mp h1
  obtain ⟨b1, b2⟩ := List.getElem?_eq_some_iff.mp h2
  exact (List.getElem_inj hn).mp (a2.trans b2.symm)
theorem relaid_nil (t : SetTable) (wanted : Nat) : ∃ t', t.relaid (#[] : Array Int) wanted = some (t', #[]) ∧ t'.fits 0 = true := by
  have hl : ∀ m : Nat, (List.range m).filterMap (fun j => (((Array.replicate m (none : Option Nat)).getD j none)).map fun k => (j, k)) = [] := fun m => by
    refine List.filterMap_eq_nil_iff.mpr fun j _ => ?_
    simp [Array.getD]
  refine ⟨{ mask := SetTable.sizeAbove wanted - 1, place := #[], dummies := #[], finger := t.finger, led := t.led, moves := t.movedTo (SetTable.sizeAbove wanted - 1), plain := t.plain }, ?_, ?_⟩
  · have e := hl (SetTable.sizeAbove wanted - 1 + 1)
    unfold SetTable.relaid SetTable.laid SetTable.layClean
    rw [show (Array.foldl (fun (acc : Option (Array (Option Nat) × Nat)) (h : Int) => _) (some (Array.replicate (SetTable.sizeAbove wanted - 1 + 1) (none : Option Nat), 0)) #[] = some (Array.replicate (SetTable.sizeAbove wanted - 1 + 1) none, 0)) from rfl]
    simp only [Option.map_some, Option.bind_eq_bind, Option.bind_some, Option.pure_def]
    rw [e]
    rfl
  · simp [SetTable.fits, SetTable.fill]
section
variable {P : Program} {w : World} {A : Around} {E : Value → Shared → Prop} {s : Shared}
theorem setOf_empty {h : Heap} {a : Addr} {S : Key → Bool} (hS : h.SetOf (mixKind P w) a S 0) : ∃ o ep t, h.get? a = some o ∧ o.ExactSet ∧ o.data = .set #[] ep t ∧ t.fits 0 = true ∧ ∀ k, S k = false := by
  obtain ⟨o, es, ep, t, ho, hex, hd, hel, hmem, hb, hf, hn⟩ := hS
  have e : es = #[] := Array.eq_empty_of_size_eq_zero hn
  subst e
  refine ⟨o, ep, t, ho, hex, hd, hf, fun k => ?_⟩
  rw [Bool.eq_false_iff]
  intro z
  obtain ⟨e, he, _⟩ := (hmem k).mp z
  simp at he
theorem setRelay_0 {a : Addr} {S : Key → Bool} {wanted : Nat} {Q : Unit → Shared → Prop} (hS : s.heap.SetOf (mixKind P w) a S 0) (hw : SetTable.sizeAbove wanted ≤ sizeLine)
    (h : ∀ h', Heap.SameBut a s.heap h' → h'.SetOf (mixKind P w) a S 0 → Q () { s with heap := h' }) : wpAny (model P w) A (setRelay a wanted) Q E s := by
  obtain ⟨o, ep, t, ho, hex, hd, hf, hno⟩ := setOf_empty hS
  obtain ⟨t', ht, hf'⟩ := relaid_nil t wanted
  unfold setRelay
  refine wpAny_bind (wpAny_setState_of ho hd hf ?_)
  dsimp only
  rw [if_neg (Nat.not_lt.mpr hw)]
  rw [show (Array.map (fun x : Int × Value => x.1) #[]) = (#[] : Array Int) by simp, ht]
  obtain ⟨c1, d1, dt, sl⟩ := o
  simp only at hd
  subst hd
  have hs0 := SetOf_store (knd := mixKind P w) (es' := #[]) (t' := t') (S' := S) ho hex rfl (fun e he => by simp at he) (fun k => by rw [hno k]; simp) (by decide) hf'
  have e0 : (Array.filterMap (fun x => (#[] : Array (Int × Value))[x]?) (#[] : Array Nat)) = #[] := by simp
  wp_walk
  rw [e0]
  exact h _ (Heap.SameBut.update s.heap a _) hs0.2
theorem setRoomFor_0 {a : Addr} {S : Key → Bool} {n : Nat} {Q : Unit → Shared → Prop} (hS : s.heap.SetOf (mixKind P w) a S 0) (hn : n ≤ 60)
    (h : ∀ h', Heap.SameBut a s.heap h' → h'.SetOf (mixKind P w) a S 0 → Q () { s with heap := h' }) : wpAny (model P w) A (setRoomFor a n) Q E s := by
  obtain ⟨o, ep, t, ho, hex, hd, hf, hno⟩ := setOf_empty hS
  unfold setRoomFor
  refine wpAny_bind (wpAny_setState_of ho hd hf ?_)
  dsimp only
  have hp : t.place.size = 0 := by
    simp only [SetTable.fits, Bool.and_eq_true, beq_iff_eq] at hf
    exact hf.1
  cases hr : t.roomFor n with
  | none => exact wpAny_pure (h s.heap (.refl ..) hS)
  | some wanted =>
    have hw : wanted = n * 2 := by
      unfold SetTable.roomFor at hr
      rw [hp] at hr
      split at hr
      · have := Option.some.inj hr
        omega
      · cases hr
    refine setRelay_0 hS ?_ h
    rw [hw]
    have : ∀ m : Fin 61, SetTable.sizeAbove (m.1 * 2) ≤ sizeLine := by decide +kernel
    exact this ⟨n, by omega⟩
theorem pairs_at {es : List DictEntry} {vs : List (Key × Value)} (h : Pairs (mixKind P w) es vs) : ∀ {i : Nat} {e : DictEntry}, es[i]? = some e → ∃ kv, vs[i]? = some kv ∧ keyIs kv.1 e.key = true := by
  induction h with
  | nil => intro i e h; simp at h
  | cons a b c ih =>
    intro i e h
    cases i with
    | zero => cases h; exact ⟨_, rfl, a⟩
    | succ i => exact ih (by simpa using h)
theorem set_fill_dict {a d : Addr} {vs : List (Key × Value)} {Q : Unit → Shared → Prop} (hd : s.heap.DictOf (mixKind P w) d vs) (lo : (d == sysModules) = false) (ne : a ≠ d) (hn : vs.length ≤ 60) (hS : s.heap.SetOf (mixKind P w) a (fun _ => false) 0)
    (fin : ∀ h', Heap.SameBut a s.heap h' → h'.SetOf (mixKind P w) a (inK (vs.map (·.1))) vs.length → Q () { s with heap := h' }) : wpAny (model P w) A (Builtin.Frozenset.updateFrom "set.__init__" a (.ref d)) Q E s := by
  obtain ⟨o, es, ep, ho, hex, hdd, hk, hp, hnd⟩ := hd
  have hT : s.TypeIs (.ref d) "dict" := ⟨o, ho, hex.1⟩
  have t1 := PySem.F.sub_dict_set
  have t2 := PySem.F.sub_dict_frozenset
  have hsz : es.size = vs.length := by rw [← hp.length]; simp
  unfold Builtin.Frozenset.updateFrom Builtin.Frozenset.isAnySet
  refine wpAny_bind ?_
  wp_walk
  rw [hdd]
  refine wpAny_pure (wpAny_bind (wpAny_dictEntries ho hdd ?_))
  rw [hsz]
  refine wpAny_bind (setRoomFor_0 (s := s) hS hn fun h1 sb1 hS1 => ?_)
  have hg : ∀ {h' : Heap}, Heap.SameBut a s.heap h' → h'.get? d = some o := fun sb => (sb.2 d (Ne.symm ne)).trans ho
  refine wpAny_bind (wpAny_dictEntries (s := { s with heap := h1 }) (hg sb1) hdd ?_)
  rw [hsz]
  refine wpAny_bind (PySem.SeqAt.wpAny_forIn_span 0 vs.length _ (fun i _ s' => ∃ h', s' = { s with heap := h' } ∧ Heap.SameBut a s.heap h' ∧ h'.SetOf (mixKind P w) a (inK ((vs.take i).map (·.1))) i) _ ?_ ?_ _ ?_)
  · rintro i _ s' _ hi ⟨h', rfl, sb, hS'⟩
    refine wpAny_bind (wpAny_dictEntries (s := { s with heap := h' }) (hg sb) hdd ?_)
    have hie : i < es.size := by omega
    rw [Array.getElem?_eq_getElem hie]
    dsimp only
    obtain ⟨kv, hkv, hkey⟩ := pairs_at hp (i := i) (e := es[i]) (by rw [Array.getElem?_toList, Array.getElem?_eq_getElem hie])
    obtain ⟨k2, hk2, hh⟩ := hk es[i] (Array.getElem_mem hie)
    have ek : k2 = kv.1 := (mixKind P w).inj _ _ _ hk2 hkey
    subst ek
    rw [hh]
    have hno : kv.1 ∉ ((vs.take i).map (·.1)) := fun q => by
      obtain ⟨j, hj, e⟩ := List.mem_iff_getElem.mp q
      rw [List.length_map, List.length_take] at hj
      rw [List.getElem_map, List.getElem_take] at e
      have := nd_at (l := vs.map (·.1)) hnd (i := j) (j := i) (x := kv.1) (by rw [List.getElem?_map, List.getElem?_eq_getElem (by omega), Option.map_some, e]) (by rw [List.getElem?_map, hkv, Option.map_some])
      omega
    refine wpAny_bind (wpAny_holding (wpAny_setAddHashed_of (s := { s with heap := h' }) (knd := mixKind P w) (k := kv.1) hkey (mix_scan hkey) hS' (by unfold scanBound; omega) fun h2 sb2 hS2 => ?_))
    have sb3 := sb.trans sb2
    refine wpAny_bind (wpAny_dictEpoch (s := { s with heap := h2 }) (hg sb3) hdd ?_)
    rw [if_neg (by simp)]
    refine wpAny_pure ⟨h2, rfl, sb3, ?_⟩
    rw [inK_no hno] at hS2
    have e1 : inK ((vs.take (i + 1)).map (·.1)) = (fun k' => inK ((vs.take i).map (·.1)) k' || decide (k' = kv.1)) := by
      rw [List.take_add_one, hkv, List.map_append]
      funext k
      exact inK_snoc
    rw [e1]
    exact hS2
  · rintro _ s' ⟨h', rfl, sb, hS'⟩
    rw [show max 0 vs.length = vs.length by omega, List.take_length] at hS'
    exact wpAny_pure (fin h' sb hS')
  · refine ⟨h1, rfl, sb1, ?_⟩
    rw [List.take_zero]
    exact hS1
theorem set_init_dict {d : Addr} {vs : List (Key × Value)} (hh : A.handled = none) (hd : s.heap.DictOf (mixKind P w) d vs) (lo : (d == sysModules) = false) (hn : vs.length ≤ 60) :
    codeAny (model P w) A (.call (.builtin "set.__init__") ⟨[.ref s.heap.objs.size, .ref d], []⟩) (wants (fun r s2 => r = .none ∧ ∃ h', s2 = { s with heap := h' } ∧ h'.SetOf (mixKind P w) s.heap.objs.size (inK (vs.map (·.1))) vs.length ∧ ∀ b o, b < s.heap.objs.size → s.heap.get? b = some o → h'.get? b = some o) E) { s with heap := s.heap.push (newSetO (!w.params.followText "set-order")) } := by
  have hS : (s.heap.push (newSetO (!w.params.followText "set-order"))).get? s.heap.objs.size = some (newSetO (!w.params.followText "set-order")) := Heap.get?_push_size _ rfl
  have hT : Shared.TypeIs { s with heap := s.heap.push (newSetO (!w.params.followText "set-order")) } (.ref s.heap.objs.size) "set" := ⟨_, hS, rfl⟩
  refine codeAny_call_builtin PySem.F.called_set.init.plain PySem.F.entry_set_init (check_set_init_1 hT ?_)
  have hlt : d < s.heap.objs.size := by
    obtain ⟨o, _, _, ho, _⟩ := hd
    exact Heap.lt_size ho
  have hd1 : (s.heap.push (newSetO (!w.params.followText "set-order"))).DictOf (mixKind P w) d vs := by
    obtain ⟨o, es, ep, ho, r⟩ := hd
    exact ⟨o, es, ep, Heap.get?_push_of_some _ ho, r⟩
  have hS0 : (s.heap.push (newSetO (!w.params.followText "set-order"))).SetOf (mixKind P w) s.heap.objs.size (fun _ => false) 0 := ⟨_, #[], 0, _, hS, ⟨rfl, rfl, rfl⟩, rfl, (fun e he => by simp at he), (fun k => by simp), (by decide), (by rfl), rfl⟩
  unfold Builtin.«set.__init__» noKeywords
  generalize hU : Builtin.Frozenset.updateFrom "set.__init__" = U
  wp_walk
  subst hU
  refine set_fill_dict (s := { s with heap := s.heap.push (newSetO (!w.params.followText "set-order")) }) hd1 lo (Nat.ne_of_gt hlt) hn hS0 fun h' sb hS' => ?_
  wp_walk
  exact ⟨rfl, h', rfl, hS', fun b o hb e => (sb.2 b (Nat.ne_of_lt hb)).trans (Heap.get?_push_of_some _ e)⟩
theorem call_set_dict {d : Addr} {vs : List (Key × Value)} {Q : Value → Shared → Prop} (hh : A.handled = none) (hd : s.heap.DictOf (mixKind P w) d vs) (lo : (d == sysModules) = false) (hn : vs.length ≤ 60)
    (fin : ∀ h', h'.SetOf (mixKind P w) s.heap.objs.size (inK (vs.map (·.1))) vs.length → (∀ b o, b < s.heap.objs.size → s.heap.get? b = some o → h'.get? b = some o) → Q (.ref s.heap.objs.size) { s with heap := h' }) : wpAny (model P w) A (call (.type "set") [.ref d]) Q E s := by
  obtain ⟨c, tl, hmro⟩ := PySem.F.called_set.mro
  have m1 := PySem.F.called_set.made
  have m2 := PySem.F.called_set.sub
  refine wpAny_call (codeAny_of_tree ?_)
  show wpAny _ _ (callAny (.type "set") _) _ _ _
  refine wpAny_pure ⟨Code.quiet_builtin _ (by decide +kernel), codeAny_builtin PySem.F.entry_type_call ?_⟩
  rw [Around.under_plain (weight_type_call_type "set" [.ref d] []) rfl]
  have m3 := PySem.F.called_set.notType
  have m4 := PySem.F.called_set.canCreate
  have m5 := PySem.F.typeCall_set_1 (.ref d)
  repeat (any_goals (first | assumption | wp_step))
  refine codeAny_mono (code_set_led1 (.ref d) (E := E) (Q₁ := fun obj s1 => obj = .ref s.heap.objs.size ∧ s1 = { s with heap := s.heap.push (newSetO (!w.params.followText "set-order")) }) ⟨rfl, rfl⟩) fun r s1 hr => ?_
  cases r with
  | error e => exact hr
  | ok fl =>
    cases fl with
    | ret obj =>
      obtain ⟨rfl, rfl⟩ := hr
      have hT : Shared.TypeIs { s with heap := s.heap.push (newSetO (!w.params.followText "set-order")) } (.ref s.heap.objs.size) "set" := ⟨_, Heap.get?_push_size _ rfl, rfl⟩
      have m6 := PySem.F.called_set.init.lookup
      have m7 := PySem.F.called_set.init.bind (.ref s.heap.objs.size)
      repeat (any_goals (first | assumption | wp_step))
      refine codeAny_mono (set_init_dict (E := E) (s := s) (by first | exact hh | simp [hh]) hd lo hn) fun r2 s2 hr2 => ?_
      cases r2 with
      | error e => exact hr2
      | ok fl2 =>
        cases fl2 with
        | ret r =>
          obtain ⟨rfl, h', rfl, z1, z2⟩ := hr2
          have f := fin h' z1 z2
          repeat (any_goals (first | assumption | wp_step))
        | _ => exact hr2.elim
    | _ => exact hr.elim
/-- two sets of keys -/
theorem subset_of {nm : String} {a b : Addr} {S S' : Key → Bool} {n n' : Nat} {Q : Bool → Shared → Prop} (hA : s.heap.SetOf (mixKind P w) a S n) (hB : s.heap.SetOf (mixKind P w) b S' n')
    (h : ∀ r : Bool, (r = true ↔ n ≤ n' ∧ ∀ k, S k = true → S' k = true) → Q r s) : wpAny (model P w) A (Builtin.Frozenset.subsetOf nm a b) Q E s := by
  obtain ⟨o, es, ep, t, ho, hex, hd, hel, hmem, hb, hf, hn⟩ := id hA
  obtain ⟨o', es', ep', t', ho', hex', hd', hel', hmem', hb', hf', hn'⟩ := id hB
  unfold Builtin.Frozenset.subsetOf Builtin.Frozenset.sizeOf
  refine wpAny_bind (wpAny_bind (wpAny_setEntries_of ho hd hf (wpAny_pure ?_)))
  refine wpAny_bind (wpAny_bind (wpAny_setEntries_of ho' hd' hf' (wpAny_pure ?_)))
  by_cases hle : es.size > es'.size
  · rw [if_pos hle]
    refine wpAny_pure (h false ⟨fun z => (by cases z), fun z => absurd z.1 (by omega)⟩)
  rw [if_neg hle]
  refine wpAny_bind (wpAny_setEpoch_of ho hd hf ?_)
  unfold Builtin.Frozenset.walkUnseen
  refine wpAny_bind ?_
  refine wpAny_bind (wpAny_setEntries_of ho hd hf ?_)
  refine wpAny_bind (wpAny_setEntries_of ho' hd' hf' ?_)
  have quiet : ∀ x ∈ es.toList ++ es'.toList, Builtin.Frozenset.quietEq x.2 = pure true := fun x hx => by
    rcases List.mem_append.mp hx with q | q
    · obtain ⟨⟨k, hk, _⟩, _⟩ := hel x q
      exact mix_quiet hk
    · obtain ⟨⟨k, hk, _⟩, _⟩ := hel' x q
      exact mix_quiet hk
  refine wpAny_bind (wpAny_forIn_list _ (fun rest b s' => b = (none, ()) ∧ s = s' ∧ ∀ x ∈ rest, Builtin.Frozenset.quietEq x.2 = pure true) _ ?_ ?_ _ _ ⟨rfl, rfl, quiet⟩)
  · rintro ⟨hh, x⟩ rest b s' ⟨rfl, rfl, q⟩
    dsimp only
    rw [show Builtin.Frozenset.quietEq x = pure true from q (hh, x) List.mem_cons_self]
    exact wpAny_bind (wpAny_pure (wpAny_pure ⟨rfl, rfl, fun y hy => q y (List.mem_cons_of_mem _ hy)⟩))
  rintro b s' ⟨rfl, rfl, _⟩
  refine wpAny_pure ?_
  refine wpAny_bind (wpAny_forIn_list _ (fun rest b s' => s = s' ∧ b = (none, ()) ∧ (∀ x ∈ rest, x ∈ es.toList) ∧ (∀ x ∈ es.toList, x ∉ rest → ∀ k, keyIs k x.2 = true → S' k = true)) _ ?_ ?_ _ _ ⟨rfl, rfl, fun _ h => h, fun x h1 h2 => absurd h1 h2⟩)
  · rintro ⟨hh, x⟩ rest b s' ⟨rfl, rfl, q1, q2⟩
    dsimp only
    obtain ⟨⟨k, hk, hhk⟩, hsc⟩ := hel (hh, x) (q1 _ List.mem_cons_self)
    have hhk : hh = (mixKind P w).hash k := hhk
    subst hhk
    refine wpAny_bind (wpAny_holding (wpAny_setFind_of (knd := mixKind P w) hk hsc hB fun r hr => ?_))
    cases hs' : S' k with
    | false =>
      rw [hs'] at hr
      rw [show r.isNone = true by cases r <;> simp_all, if_pos rfl]
      refine wpAny_pure (wpAny_pure (h false ⟨fun z => (by cases z), fun z => ?_⟩))
      have := z.2 k ((hmem k).mpr ⟨_, q1 _ List.mem_cons_self, hk⟩)
      rw [hs'] at this
      exact this
    | true =>
      rw [hs'] at hr
      rw [show r.isNone = false by cases r <;> simp_all, if_neg (by simp)]
      unfold Builtin.Frozenset.unchanged
      refine wpAny_bind (wpAny_bind (wpAny_setEpoch_of ho hd hf ?_))
      rw [if_neg (by simp)]
      refine wpAny_pure (wpAny_pure ⟨rfl, rfl, fun y hy => q1 y (List.mem_cons_of_mem _ hy), fun y hy hn k2 hk2 => ?_⟩)
      by_cases e : y = ((mixKind P w).hash k, x)
      · subst e
        rw [(mixKind P w).inj _ _ _ hk2 hk]
        exact hs'
      · exact q2 y hy (fun z => (List.mem_cons.mp z).elim e hn) k2 hk2
  · rintro b s' ⟨rfl, rfl, q1, q2⟩
    refine wpAny_pure (h true ⟨fun _ => ⟨by omega, fun k hk => ?_⟩, fun _ => rfl⟩)
    obtain ⟨e, he, hke⟩ := (hmem k).mp hk
    exact q2 e he (fun z => nomatch z) k hke
theorem entry_set_ne : entryFor table "set.__ne__" = some Builtin.«frozenset.__ne__» :=
  entryFor_alias (id' := "frozenset.__ne__") (by kernel_rfl) rfl (by decide +kernel) (by kernel_rfl)
theorem set_ne {a b : Addr} {S S' : Key → Bool} {n n' : Nat} {Q : Value → Shared → Prop} (hA : s.heap.SetOf (mixKind P w) a S n) (hB : s.heap.SetOf (mixKind P w) b S' n') (hu : A.units < cLine)
    (h : ∀ r : Bool, (r = true ↔ n = n' ∧ ∀ k, S k = true → S' k = true) → Q (.bool (!r)) s) : wpAny (model P w) A (compareOp .NotEq (.ref a) (.ref b)) Q E s := by
  have tA := hA.typeIs
  have tB := hB.typeIs
  obtain ⟨o, es, ep, t, ho, hex, hd, hel, hmem, hb, hf, hn⟩ := id hA
  obtain ⟨o', es', ep', t', ho', hex', hd', hel', hmem', hb', hf', hn'⟩ := id hB
  refine wpAny_richCompare_same_room (op := .NotEq) tA tB PySem.F.slot_set_ne (wpAny_call_entry PySem.F.slot_set_ne tA entry_set_ne ?_ (PySem.F.args_set_ne_2 _ _)) hu
  unfold Builtin.«frozenset.__ne__»
  wp_delta
  generalize hSub : Builtin.Frozenset.subsetOf = SU
  have f1 := PySem.F.sub_set_set
  have f2 := PySem.F.sub_set_frozenset
  have szA : ∀ {Q' : Nat → Shared → Prop}, Q' n s → wpAny (model P w) A.in1 (Builtin.Frozenset.sizeOf a) Q' (fun e s' => E e s') s := fun {Q'} q => by
    unfold Builtin.Frozenset.sizeOf
    exact wpAny_bind (wpAny_setEntries_of ho hd hf (wpAny_pure (by rw [hn]; exact q)))
  have szB : ∀ {Q' : Nat → Shared → Prop}, Q' n' s → wpAny (model P w) A.in1 (Builtin.Frozenset.sizeOf b) Q' (fun e s' => E e s') s := fun {Q'} q => by
    unfold Builtin.Frozenset.sizeOf
    exact wpAny_bind (wpAny_setEntries_of ho' hd' hf' (wpAny_pure (by rw [hn']; exact q)))
  generalize hSz : Builtin.Frozenset.sizeOf = SZ
  wp_walk
  subst hSz
  refine szA (wpAny_bind (szB ?_))
  by_cases hnn : n = n'
  · have hne : (n != n') = false := by rw [hnn]; simp
    dsimp only
    refine wpAny_bind ?_
    rw [if_neg (by rw [hne]; simp)]
    wp_walk
    subst hSub
    refine subset_of (s := s) hA hB fun r hr => ?_
    have q := h r (hr.trans ⟨fun z => ⟨hnn, z.2⟩, fun z => ⟨by omega, z.2⟩⟩)
    wp_walk
    exact ⟨_, rfl, (fun z => nomatch z), q⟩
  · have hne : (n != n') = true := by simpa using hnn
    dsimp only
    refine wpAny_bind ?_
    rw [if_pos hne]
    refine wpAny_pure ?_
    have q := h false ⟨fun z => (by cases z), fun z => absurd z.1 hnn⟩
    wp_walk
    exact ⟨_, rfl, (fun z => nomatch z), q⟩
end
theorem setOf_txt {P : Program} {w : World} {h : Heap} {a : Addr} {D : SD} {l ks : List Str} (R : TxR P w h a D l) (hp : l.Perm ks) (hb : ks.length < scanBound) : h.SetOf (mixKind P w) a (inK (ks.map Sum.inr)) ks.length := by
  obtain ⟨es, ep, t⟩ := D
  refine ⟨_, es, ep, t, R.ob, ⟨rfl, rfl, rfl⟩, rfl, fun e he => ?_, fun k => ?_, ?_, R.tx.fit, ?_⟩
  · obtain ⟨⟨k, h1, h2⟩, h3⟩ := R.tx.el e he
    exact ⟨⟨Sum.inr k, h1, h2⟩, h3⟩
  · rw [inK_iff, List.mem_map]
    constructor
    · rintro ⟨x, hx, rfl⟩
      exact (R.tx.mem x).mp (hp.mem_iff.mpr hx)
    · rintro ⟨e, he, q⟩
      obtain ⟨⟨x, h1, _⟩, _⟩ := R.tx.el e he
      have ek : k = Sum.inr x := (mixKind P w).inj _ _ _ q (show keyIs (Sum.inr x) e.2 = true from h1)
      subst ek
      exact ⟨x, hp.mem_iff.mp ((R.tx.mem x).mpr ⟨e, he, h1⟩), rfl⟩
  · have e : es.size = l.length := R.tx.sz
    rw [e, hp.length_eq]
    exact hb
  · have e : es.size = l.length := R.tx.sz
    rw [e, hp.length_eq]
section
variable {X : Cx}
/-- set(xs): of a list of texts that are each once, or of a dict whose keys are texts -/
def rSetT (K : PySem.W.Frag) (P : Program) (w : World) : List V → Hp → VK → Prop := fun xs H Q => ∃ (a : Addr) (ks : List Str), xs = [.ref a] ∧ ks.Nodup ∧ ks.length ≤ 60 ∧ (SqL K H a (ks.map V.str) ∨ ∃ kvs : List (Key × V), Rd H a (.dK kvs) ∧ kvs.map (·.1) = ks.map Sum.inr) ∧
  ∀ p, H p = none → Q (.ref p) (upd H p (SetK P w p (inK (ks.map Sum.inr)) ks.length))
theorem cr_setT (hc : X.calm = true := by rfl) : CallR X (.type "set") (rSetT X.K X.prog X.w) := by
  intro pins s σ H xs us Q I r h
  obtain ⟨a, ks, rfl, hn, h60, h0, q⟩ := h
  obtain ⟨u, rfl, ru⟩ := r.one
  obtain rfl : u = Value.ref a := ru
  rcases h0 with hq | ⟨kvs, hk, ek⟩
  · obtain ⟨its, r, pl, hz⟩ := I.list hq
    have hi : StrsAre its ks := strsAre_of r
    have hsz : its.toArray.size = ks.length := by rw [List.size_toArray, strs_len hi]
    refine call_set_any (I.ok.hd hc) pl.isList (by simpa using hi) (by rw [hsz]; unfold scanBound; omega) fun s2 z => ?_
    obtain ⟨h2, tk2, rfl, ⟨D, R⟩, hk⟩ := z
    exact ⟨.ref _, upd H s.heap.objs.size (SetK X.prog X.w s.heap.objs.size (inK (ks.map Sum.inr)) ks.length), I.laid (fun b u e => hk b u (Heap.lt_size e) e) (Nat.le_refl _) (setK_new (setOf_txt R (accs_self hn) (by unfold scanBound; omega))), rfl, q _ (I.hok.fresh (Nat.le_refl _))⟩
  · obtain ⟨z, lo, vs, rel, dd⟩ := dk_rd I.hok hk
    have ev : vs.map (·.1) = ks.map Sum.inr := by rw [← ek]; exact rel.keys.symm
    have hvl : vs.length = ks.length := by
      have := congrArg List.length ev
      simpa using this
    refine call_set_dict (I.ok.hd hc) dd lo (by omega) fun h' z1 z2 => ?_
    rw [ev, hvl] at z1
    exact ⟨.ref _, upd H s.heap.objs.size (SetK X.prog X.w s.heap.objs.size (inK (ks.map Sum.inr)) ks.length), I.laid (t' := s.toks) (fun b u e => z2 b u (Heap.lt_size e) e) (Nat.le_refl _) (setK_new z1), rfl, q _ (I.hok.fresh (Nat.le_refl _))⟩
/-- a != b: whether two sets of texts differ -/
def rSetNe (P : Program) (w : World) : R2 := fun x y H Q => ∃ (a b : Addr) (ls ms : List Str), x = .ref a ∧ y = .ref b ∧ H a = some (SetK P w a (inK (ls.map Sum.inr)) ls.length) ∧ H b = some (SetK P w b (inK (ms.map Sum.inr)) ms.length) ∧ ls.Nodup ∧ ms.Nodup ∧
  ∀ r : Bool, (r = true ↔ ∀ v, v ∈ ls ↔ v ∈ ms) → Q (.bl (!r)) H
theorem op_setNe (hu : X.A.units < cLine) : OpR X (compareOp .NotEq) (rSetNe X.prog X.w) := by
  intro pins s σ H x y v u Q I rx ry h
  obtain ⟨a, b, ls, ms, rfl, rfl, ha, hb, n1, n2, q⟩ := h
  obtain rfl : v = Value.ref a := rx
  obtain rfl : u = Value.ref b := ry
  refine set_ne (setK_get I ha) (setK_get I hb) hu fun r hr => ⟨.bl (!r), H, I, rfl, q r (hr.trans ⟨fun z v => ?_, fun z => ?_⟩)⟩
  · obtain ⟨z1, z2⟩ := z
    have sub : ∀ v ∈ ls, v ∈ ms := fun v hv => by
      have := z2 (Sum.inr v) (inK_iff.mpr (List.mem_map.mpr ⟨v, hv, rfl⟩))
      obtain ⟨x, hx, e⟩ := List.mem_map.mp (inK_iff.mp this)
      cases e
      exact hx
    refine ⟨sub v, fun hv => Classical.byContradiction fun hn => ?_⟩
    have := (List.nodup_cons.mpr ⟨hn, n1⟩).length_le_of_subset (l₂ := ms) fun w hw => (List.mem_cons.mp hw).elim (fun e => e ▸ hv) (sub w)
    rw [List.length_cons] at this
    omega
  · refine ⟨(perm_of_mem n1 n2 z).length_eq, fun k hk => ?_⟩
    obtain ⟨x, hx, rfl⟩ := List.mem_map.mp (inK_iff.mp hk)
    exact inK_iff.mpr (List.mem_map.mpr ⟨x, (z x).mp hx, rfl⟩)
end
end Five
end
section
namespace Five
open PySem PySem.Spec PyProof.Rows L2
def top (i : Nat) : Stmt := PySem.Challenge.pw_fivehues_k62_whole_hues_from_lists.main.body.getD i (.Pass ⟨0, 0, 0, 0⟩)
abbrev s_OneWay_init : Stmt := inClass (top 4) 0
abbrev N_OneWay_init : List Str := ["self", "one", "other"]
theorem sc_OneWay_init : FnScope N_OneWay_init ["self", "one", "other"] (defScope s_OneWay_init) := ⟨rfl, rfl, rfl, by decide +kernel, rfl, by decide +kernel, by decide +kernel⟩
abbrev s_NotFlat_init : Stmt := inClass (top 5) 0
abbrev N_NotFlat_init : List Str := ["self", "many_places", "many_ties", "many_faces"]
theorem sc_NotFlat_init : FnScope N_NotFlat_init ["self", "many_places", "many_ties", "many_faces"] (defScope s_NotFlat_init) := ⟨rfl, rfl, rfl, by decide +kernel, rfl, by decide +kernel, by decide +kernel⟩
abbrev s_is_name : Stmt := top 11
abbrev N_is_name : List Str := ["thing", "sign"]
theorem sc_is_name : FnScope N_is_name ["thing"] (defScope s_is_name) := ⟨rfl, rfl, rfl, by decide +kernel, rfl, by decide +kernel, by decide +kernel⟩
abbrev s_from_least : Stmt := top 12
abbrev N_from_least : List Str := ["around", "at"]
theorem sc_from_least : FnScope N_from_least ["around"] (defScope s_from_least) := ⟨rfl, rfl, rfl, by decide +kernel, rfl, by decide +kernel, by decide +kernel⟩
abbrev s_behind : Stmt := top 13
abbrev N_behind : List Str := ["around", "place"]
theorem sc_behind : FnScope N_behind ["around", "place"] (defScope s_behind) := ⟨rfl, rfl, rfl, by decide +kernel, rfl, by decide +kernel, by decide +kernel⟩
abbrev s_face_from : Stmt := top 14
abbrev N_face_from : List Str := ["rounds", "step", "found", "p", "q", "here"]
theorem sc_face_from : FnScope N_face_from ["rounds", "step"] (defScope s_face_from) := ⟨rfl, rfl, rfl, by decide +kernel, rfl, by decide +kernel, by decide +kernel⟩
abbrev s_faces_in : Stmt := top 15
abbrev N_faces_in : List Str := ["rounds", "found", "seen", "place", "other", "face", "step"]
theorem sc_faces_in : FnScope N_faces_in ["rounds"] (defScope s_faces_in) := ⟨rfl, rfl, rfl, by decide +kernel, rfl, by decide +kernel, by decide +kernel⟩
abbrev s_come_to : Stmt := top 16
abbrev N_come_to : List Str := ["rounds", "place", "found", "waiting", "other"]
theorem sc_come_to : FnScope N_come_to ["rounds", "place"] (defScope s_come_to) := ⟨rfl, rfl, rfl, by decide +kernel, rfl, by decide +kernel, by decide +kernel⟩
abbrev s_pieces_in : Stmt := top 17
abbrev N_pieces_in : List Str := ["rounds", "found", "seen", "place", "piece", "one"]
theorem sc_pieces_in : FnScope N_pieces_in ["rounds"] (defScope s_pieces_in) := ⟨rfl, rfl, rfl, by decide +kernel, rfl, by decide +kernel, by decide +kernel⟩
abbrev s_want_names : Stmt := top 18
abbrev N_want_names : List Str := ["rows", "place", "around", "name"]
theorem sc_want_names : FnScope N_want_names ["rows"] (defScope s_want_names) := ⟨rfl, rfl, rfl, by decide +kernel, rfl, by decide +kernel, by decide +kernel⟩
abbrev s_want_unlike : Stmt := top 19
abbrev N_want_unlike : List Str := ["rows", "place", "around"]
theorem sc_want_unlike : FnScope N_want_unlike ["rows"] (defScope s_want_unlike) := ⟨rfl, rfl, rfl, by decide +kernel, rfl, by decide +kernel, by decide +kernel⟩
abbrev s_want_back : Stmt := top 20
abbrev N_want_back : List Str := ["rows", "rounds", "place", "around", "other"]
theorem sc_want_back : FnScope N_want_back ["rows", "rounds"] (defScope s_want_back) := ⟨rfl, rfl, rfl, by decide +kernel, rfl, by decide +kernel, by decide +kernel⟩
abbrev s_want_flat : Stmt := top 21
abbrev N_want_flat : List Str := ["rounds", "faces", "piece", "ties", "own", "place", "face"]
theorem sc_want_flat : FnScope N_want_flat ["rounds"] (defScope s_want_flat) := ⟨rfl, rfl, rfl, by decide +kernel, rfl, by decide +kernel, by decide +kernel⟩
abbrev s_Web_init : Stmt := inClass (top 22) 0
abbrev N_Web_init : List Str := ["self", "rows", "rounds", "place", "around"]
theorem sc_Web_init : FnScope N_Web_init ["self", "rows"] (defScope s_Web_init) := ⟨rfl, rfl, rfl, by decide +kernel, rfl, by decide +kernel, by decide +kernel⟩
abbrev s_Web_places : Stmt := inClass (top 22) 1
abbrev N_Web_places : List Str := ["self"]
theorem sc_Web_places : FnScope N_Web_places ["self"] (defScope s_Web_places) := ⟨rfl, rfl, rfl, by decide +kernel, rfl, by decide +kernel, by decide +kernel⟩
abbrev s_Web_round_of : Stmt := inClass (top 22) 2
abbrev N_Web_round_of : List Str := ["self", "place"]
theorem sc_Web_round_of : FnScope N_Web_round_of ["self", "place"] (defScope s_Web_round_of) := ⟨rfl, rfl, rfl, by decide +kernel, rfl, by decide +kernel, by decide +kernel⟩
abbrev s_Web_ties : Stmt := inClass (top 22) 3
abbrev N_Web_ties : List Str := ["self", "found", "one", "other"]
theorem sc_Web_ties : FnScope N_Web_ties ["self"] (defScope s_Web_ties) := ⟨rfl, rfl, rfl, by decide +kernel, rfl, by decide +kernel, by decide +kernel⟩
abbrev s_Web_is_tied : Stmt := inClass (top 22) 4
abbrev N_Web_is_tied : List Str := ["self", "one", "other"]
theorem sc_Web_is_tied : FnScope N_Web_is_tied ["self", "one", "other"] (defScope s_Web_is_tied) := ⟨rfl, rfl, rfl, by decide +kernel, rfl, by decide +kernel, by decide +kernel⟩
abbrev s_rounds_of : Stmt := top 24
abbrev N_rounds_of : List Str := ["web", "place"]
theorem sc_rounds_of : FnScope N_rounds_of ["web"] (defScope s_rounds_of) := ⟨rfl, rfl, rfl, by decide +kernel, rfl, by decide +kernel, by decide +kernel⟩
abbrev s_pieces : Stmt := top 25
abbrev N_pieces : List Str := ["web"]
theorem sc_pieces : FnScope N_pieces ["web"] (defScope s_pieces) := ⟨rfl, rfl, rfl, by decide +kernel, rfl, by decide +kernel, by decide +kernel⟩
abbrev s_tied_with : Stmt := top 29
abbrev N_tied_with : List Str := ["web", "place", "hue", "chosen", "other"]
theorem sc_tied_with : FnScope N_tied_with ["web", "place", "hue", "chosen"] (defScope s_tied_with) := ⟨rfl, rfl, rfl, by decide +kernel, rfl, by decide +kernel, by decide +kernel⟩
abbrev s_free_ways : Stmt := top 30
abbrev N_free_ways : List Str := ["web", "lists", "chosen", "place", "hue"]
theorem sc_free_ways : FnScope N_free_ways ["web", "lists", "chosen", "place"] (defScope s_free_ways) := ⟨rfl, rfl, rfl, by decide +kernel, rfl, by decide +kernel, by decide +kernel⟩
abbrev s_tightest : Stmt := top 31
abbrev N_tightest : List Str := ["web", "lists", "chosen", "left", "place"]
theorem sc_tightest : FnScope N_tightest ["web", "lists", "chosen", "left"] (defScope s_tightest) := ⟨rfl, rfl, rfl, by decide +kernel, rfl, by decide +kernel, by decide +kernel⟩
abbrev s_searched : Stmt := top 32
abbrev N_searched : List Str := ["web", "lists", "chosen", "left", "place", "rest", "ways", "hue", "other", "more", "kind", "found"]
theorem sc_searched : FnScope N_searched ["web", "lists", "chosen", "left"] (defScope s_searched) := ⟨rfl, rfl, rfl, by decide +kernel, rfl, by decide +kernel, by decide +kernel⟩
abbrev s_want_lists : Stmt := top 33
abbrev N_want_lists : List Str := ["web", "lists"]
theorem sc_want_lists : FnScope N_want_lists ["web", "lists"] (defScope s_want_lists) := ⟨rfl, rfl, rfl, by decide +kernel, rfl, by decide +kernel, by decide +kernel⟩
abbrev s_from_lists : Stmt := top 34
abbrev N_from_lists : List Str := ["web", "lists", "hues", "piece", "kind", "found"]
theorem sc_from_lists : FnScope N_from_lists ["web", "lists"] (defScope s_from_lists) := ⟨rfl, rfl, rfl, by decide +kernel, rfl, by decide +kernel, by decide +kernel⟩
abbrev s_is_read_within : Stmt := top 35
abbrev N_is_read_within : List Str := ["web", "lists", "choice", "chosen", "place", "ways", "hue", "why", "more"]
theorem sc_is_read_within : FnScope N_is_read_within ["web", "lists", "choice", "chosen"] (defScope s_is_read_within) := ⟨rfl, rfl, rfl, by decide +kernel, rfl, by decide +kernel, by decide +kernel⟩
abbrev s_is_read : Stmt := top 36
abbrev N_is_read : List Str := ["web", "lists", "choice"]
theorem sc_is_read : FnScope N_is_read ["web", "lists", "choice"] (defScope s_is_read) := ⟨rfl, rfl, rfl, by decide +kernel, rfl, by decide +kernel, by decide +kernel⟩
abbrev s_law_pot : Stmt := top 38
abbrev N_law_pot : List Str := ["_law_script", "_law_k", "_law_cell"]
theorem sc_law_pot : FnScope N_law_pot ["_law_script", "_law_k"] (defScope s_law_pot) := ⟨rfl, rfl, rfl, by decide +kernel, rfl, by decide +kernel, by decide +kernel⟩
abbrev s_law_take : Stmt := top 39
abbrev N_law_take : List Str := ["_law_pot_here", "_law_many", "_law_digit"]
theorem sc_law_take : FnScope N_law_take ["_law_pot_here", "_law_many"] (defScope s_law_take) := ⟨rfl, rfl, rfl, by decide +kernel, rfl, by decide +kernel, by decide +kernel⟩
abbrev s_law_names : Stmt := top 40
abbrev N_law_names : List Str := ["_law_pot_here", "_law_many", "_law_letters", "_law_shift", "_law_found", "_law_k", "_law_tail", "_law_turn"]
theorem sc_law_names : FnScope N_law_names ["_law_pot_here", "_law_many"] (defScope s_law_names) := ⟨rfl, rfl, rfl, by decide +kernel, rfl, by decide +kernel, by decide +kernel⟩
abbrev s_law_behind : Stmt := top 41
abbrev N_law_behind : List Str := ["_law_row", "_law_name"]
theorem sc_law_behind : FnScope N_law_behind ["_law_row", "_law_name"] (defScope s_law_behind) := ⟨rfl, rfl, rfl, by decide +kernel, rfl, by decide +kernel, by decide +kernel⟩
abbrev s_law_put : Stmt := top 42
abbrev N_law_put : List Str := ["_law_rounds_here", "_law_one", "_law_corner", "_law_other", "_law_row", "_law_at"]
theorem sc_law_put : FnScope N_law_put ["_law_rounds_here", "_law_one", "_law_corner", "_law_other"] (defScope s_law_put) := ⟨rfl, rfl, rfl, by decide +kernel, rfl, by decide +kernel, by decide +kernel⟩
abbrev s_law_face : Stmt := top 43
abbrev N_law_face : List Str := ["_law_rounds_here", "_law_corner", "_law_one", "_law_found", "_law_step"]
theorem sc_law_face : FnScope N_law_face ["_law_rounds_here", "_law_corner", "_law_one"] (defScope s_law_face) := ⟨rfl, rfl, rfl, by decide +kernel, rfl, by decide +kernel, by decide +kernel⟩
abbrev s_law_tie : Stmt := top 44
abbrev N_law_tie : List Str := ["_law_pot_here", "_law_rounds_here", "_law_some", "_law_one", "_law_corner", "_law_steps", "_law_begin", "_law_after", "_law_other", "_law_name"]
theorem sc_law_tie : FnScope N_law_tie ["_law_pot_here", "_law_rounds_here"] (defScope s_law_tie) := ⟨rfl, rfl, rfl, by decide +kernel, rfl, by decide +kernel, by decide +kernel⟩
abbrev s_law_more : Stmt := top 45
abbrev N_law_more : List Str := ["_law_pot_here", "_law_rounds_here", "_law_name", "_law_some", "_law_one", "_law_corner"]
theorem sc_law_more : FnScope N_law_more ["_law_pot_here", "_law_rounds_here", "_law_name"] (defScope s_law_more) := ⟨rfl, rfl, rfl, by decide +kernel, rfl, by decide +kernel, by decide +kernel⟩
abbrev s_law_rounds : Stmt := top 46
abbrev N_law_rounds : List Str := ["_law_pot_here", "_law_most", "_law_rounds_here", "_law_thick", "_law_name", "_law_turn"]
theorem sc_law_rounds : FnScope N_law_rounds ["_law_pot_here", "_law_most"] (defScope s_law_rounds) := ⟨rfl, rfl, rfl, by decide +kernel, rfl, by decide +kernel, by decide +kernel⟩
abbrev s_law_web : Stmt := top 47
abbrev N_law_web : List Str := ["_law_pot_here", "_law_rounds_here", "_law_rows", "_law_name", "_law_row", "_law_at"]
theorem sc_law_web : FnScope N_law_web ["_law_pot_here", "_law_rounds_here"] (defScope s_law_web) := ⟨rfl, rfl, rfl, by decide +kernel, rfl, by decide +kernel, by decide +kernel⟩
abbrev s_law_lists : Stmt := top 48
abbrev N_law_lists : List Str := ["_law_pot_here", "_law_rounds_here", "_law_found", "_law_wide", "_law_name", "_law_left", "_law_row", "_law_turn"]
theorem sc_law_lists : FnScope N_law_lists ["_law_pot_here", "_law_rounds_here"] (defScope s_law_lists) := ⟨rfl, rfl, rfl, by decide +kernel, rfl, by decide +kernel, by decide +kernel⟩
abbrev s_law_tied : Stmt := top 49
abbrev N_law_tied : List Str := ["_law_rounds_here", "_law_name", "_law_hue", "_law_chosen", "_law_other"]
theorem sc_law_tied : FnScope N_law_tied ["_law_rounds_here", "_law_name", "_law_hue", "_law_chosen"] (defScope s_law_tied) := ⟨rfl, rfl, rfl, by decide +kernel, rfl, by decide +kernel, by decide +kernel⟩
abbrev s_law_choice : Stmt := top 50
abbrev N_law_choice : List Str := ["_law_rounds_here", "_law_lists_here", "_law_left", "_law_chosen", "_law_name", "_law_ways", "_law_hue", "_law_other", "_law_more_here", "_law_kind", "_law_found"]
theorem sc_law_choice : FnScope N_law_choice ["_law_rounds_here", "_law_lists_here", "_law_left", "_law_chosen"] (defScope s_law_choice) := ⟨rfl, rfl, rfl, by decide +kernel, rfl, by decide +kernel, by decide +kernel⟩
abbrev s_law_is_choice : Stmt := top 51
abbrev N_law_is_choice : List Str := ["_law_thing"]
theorem sc_law_is_choice : FnScope N_law_is_choice ["_law_thing"] (defScope s_law_is_choice) := ⟨rfl, rfl, rfl, by decide +kernel, rfl, by decide +kernel, by decide +kernel⟩
abbrev s_law_reads : Stmt := top 52
abbrev N_law_reads : List Str := ["_law_rounds_here", "_law_lists_here", "_law_choice_here", "_law_chosen", "_law_name", "_law_ways", "_law_hue", "_law_why", "_law_more_here", "_law_way"]
theorem sc_law_reads : FnScope N_law_reads ["_law_rounds_here", "_law_lists_here", "_law_choice_here", "_law_chosen"] (defScope s_law_reads) := ⟨rfl, rfl, rfl, by decide +kernel, rfl, by decide +kernel, by decide +kernel⟩
abbrev s_law_copied : Stmt := top 53
abbrev N_law_copied : List Str := ["_law_choice_here", "_law_hue", "_law_why"]
theorem sc_law_copied : FnScope N_law_copied ["_law_choice_here"] (defScope s_law_copied) := ⟨rfl, rfl, rfl, by decide +kernel, rfl, by decide +kernel, by decide +kernel⟩
abbrev s_law_emptied : Stmt := top 54
abbrev N_law_emptied : List Str := ["_law_choice_here", "_law_hue", "_law_why"]
theorem sc_law_emptied : FnScope N_law_emptied ["_law_choice_here"] (defScope s_law_emptied) := ⟨rfl, rfl, rfl, by decide +kernel, rfl, by decide +kernel, by decide +kernel⟩
abbrev s_law_are_right : Stmt := top 55
abbrev N_law_are_right : List Str := ["_law_rounds_here", "_law_lists_here", "_law_hues", "_law_name", "_law_other"]
theorem sc_law_are_right : FnScope N_law_are_right ["_law_rounds_here", "_law_lists_here", "_law_hues"] (defScope s_law_are_right) := ⟨rfl, rfl, rfl, by decide +kernel, rfl, by decide +kernel, by decide +kernel⟩
abbrev s_law : Stmt := top 56
abbrev N_law : List Str := ["_law_script", "_law_k", "_law_pot_here", "_law_rounds_here", "_law_web_here", "_law_lists_here", "_law_before", "_law_told", "_law_kind", "_law_same", "_law_name"]
theorem sc_law : FnScope N_law ["_law_script"] (defScope s_law) := ⟨rfl, rfl, rfl, by decide +kernel, rfl, by decide +kernel, by decide +kernel⟩
structure Txt (K : PySem.W.Frag) (mg : Str → Option Value) (C : Addr) (cx : Nat → Addr) : Prop where
  n_abs : mg "abs" = none
  n_all : mg "all" = none
  n_any : mg "any" = none
  n_bool : mg "bool" = none
  n_dict : mg "dict" = none
  n_divmod : mg "divmod" = none
  n_isinstance : mg "isinstance" = none
  n_len : mg "len" = none
  n_list : mg "list" = none
  n_max : mg "max" = none
  n_min : mg "min" = none
  n_range : mg "range" = none
  n_set : mg "set" = none
  n_sorted : mg "sorted" = none
  n_str : mg "str" = none
  n_sum : mg "sum" = none
  n_tuple : mg "tuple" = none
  g_LETTERS : ∃ u, mg "LETTERS" = some u ∧ RelV (.str "abcdefghijklmnopqrstuvwxyz") u
  g_MOST_LETTERS : ∃ u, mg "MOST_LETTERS" = some u ∧ RelV (.int 8) u
  g_MOST_PLACES : ∃ u, mg "MOST_PLACES" = some u ∧ RelV (.int 12) u
  g_TIED : ∃ u, mg "TIED" = some u ∧ RelV (.str "tied") u
  d_is_name : DefAt K mg "is_name" s_is_name ["thing"]
  d_from_least : DefAt K mg "from_least" s_from_least ["around"]
  d_behind : DefAt K mg "behind" s_behind ["around", "place"]
  d_face_from : DefAt K mg "face_from" s_face_from ["rounds", "step"]
  d_faces_in : DefAt K mg "faces_in" s_faces_in ["rounds"]
  d_come_to : DefAt K mg "come_to" s_come_to ["rounds", "place"]
  d_pieces_in : DefAt K mg "pieces_in" s_pieces_in ["rounds"]
  d_want_names : DefAt K mg "want_names" s_want_names ["rows"]
  d_want_unlike : DefAt K mg "want_unlike" s_want_unlike ["rows"]
  d_want_back : DefAt K mg "want_back" s_want_back ["rows", "rounds"]
  d_want_flat : DefAt K mg "want_flat" s_want_flat ["rounds"]
  d_rounds_of : DefAt K mg "rounds_of" s_rounds_of ["web"]
  d_pieces : DefAt K mg "pieces" s_pieces ["web"]
  d_tied_with : DefAt K mg "tied_with" s_tied_with ["web", "place", "hue", "chosen"]
  d_free_ways : DefAt K mg "free_ways" s_free_ways ["web", "lists", "chosen", "place"]
  d_tightest : DefAt K mg "tightest" s_tightest ["web", "lists", "chosen", "left"]
  d_searched : DefAt K mg "searched" s_searched ["web", "lists", "chosen", "left"]
  d_want_lists : DefAt K mg "want_lists" s_want_lists ["web", "lists"]
  d_from_lists : DefAt K mg "from_lists" s_from_lists ["web", "lists"]
  d_is_read_within : DefAt K mg "is_read_within" s_is_read_within ["web", "lists", "choice", "chosen"]
  d_is_read : DefAt K mg "is_read" s_is_read ["web", "lists", "choice"]
  d_law_pot : DefAt K mg "_law_pot" s_law_pot ["_law_script", "_law_k"]
  d_law_take : DefAt K mg "_law_take" s_law_take ["_law_pot_here", "_law_many"]
  d_law_names : DefAt K mg "_law_names" s_law_names ["_law_pot_here", "_law_many"]
  d_law_behind : DefAt K mg "_law_behind" s_law_behind ["_law_row", "_law_name"]
  d_law_put : DefAt K mg "_law_put" s_law_put ["_law_rounds_here", "_law_one", "_law_corner", "_law_other"]
  d_law_face : DefAt K mg "_law_face" s_law_face ["_law_rounds_here", "_law_corner", "_law_one"]
  d_law_tie : DefAt K mg "_law_tie" s_law_tie ["_law_pot_here", "_law_rounds_here"]
  d_law_more : DefAt K mg "_law_more" s_law_more ["_law_pot_here", "_law_rounds_here", "_law_name"]
  d_law_rounds : DefAt K mg "_law_rounds" s_law_rounds ["_law_pot_here", "_law_most"]
  d_law_web : DefAt K mg "_law_web" s_law_web ["_law_pot_here", "_law_rounds_here"]
  d_law_lists : DefAt K mg "_law_lists" s_law_lists ["_law_pot_here", "_law_rounds_here"]
  d_law_tied : DefAt K mg "_law_tied" s_law_tied ["_law_rounds_here", "_law_name", "_law_hue", "_law_chosen"]
  d_law_choice : DefAt K mg "_law_choice" s_law_choice ["_law_rounds_here", "_law_lists_here", "_law_left", "_law_chosen"]
  d_law_is_choice : DefAt K mg "_law_is_choice" s_law_is_choice ["_law_thing"]
  d_law_reads : DefAt K mg "_law_reads" s_law_reads ["_law_rounds_here", "_law_lists_here", "_law_choice_here", "_law_chosen"]
  d_law_copied : DefAt K mg "_law_copied" s_law_copied ["_law_choice_here"]
  d_law_emptied : DefAt K mg "_law_emptied" s_law_emptied ["_law_choice_here"]
  d_law_are_right : DefAt K mg "_law_are_right" s_law_are_right ["_law_rounds_here", "_law_lists_here", "_law_hues"]
  d_law : DefAt K mg "law" s_law ["_law_script"]
  h_HueError : mg "HueError" = some (.ref (cx 0))
  h_NoName : mg "NoName" = some (.ref (cx 1))
  h_Twice : mg "Twice" = some (.ref (cx 2))
  h_OneWay : mg "OneWay" = some (.ref (cx 3))
  h_NotFlat : mg "NotFlat" = some (.ref (cx 4))
  x_NoPlace : ExT K mg "NoPlace" (cx 5)
  x_TooMany : ExT K mg "TooMany" (cx 6)
  cl : Cls K C
  nR : NoAttr K C "rounds"
  mgWeb : mg "Web" = some (.ref C)
  d_Web_init : ∃ f fd, Fun K "__init__" "Web.__init__" s_Web_init f fd ∧ Mk K C f ∧ Binds K fd ["self", "rows"] []
  d_Web_places : MetAt K C "places" "Web.places" s_Web_places ["self"]
  d_Web_round_of : MetAt K C "round_of" "Web.round_of" s_Web_round_of ["self", "place"]
  d_Web_ties : MetAt K C "ties" "Web.ties" s_Web_ties ["self"]
  d_Web_is_tied : MetAt K C "is_tied" "Web.is_tied" s_Web_is_tied ["self", "one", "other"]
end Five
end
section
namespace Five
open PySem PySem.Spec PyProof.Rows L2
section
variable {P : Program} {w : World} {K : PySem.W.Frag} {mg : Str → Option Value} {base : Heap} {C : Addr} {cx : Nat → Addr}
def spBehind (K : PySem.W.Frag) : Sp := fun vs H Q _ => ∃ (a : Addr) (l : List Str) (x : Str), vs = [.ref a, .str x] ∧ LS K H a l ∧ x ∈ l ∧ Q (.str (nx l x)) H
theorem ok_behind (T : Txt K mg C cx) : Cal P w K mg base 1 "behind" (spBehind K) := by
  refine cal_of T.d_behind sc_behind (fun vs H Q E h => ?_) (fun f cdv A outer s H vs Q E hr h => ?_)
  · obtain ⟨a, l, x, rfl, _⟩ := h
    rfl
  · obtain ⟨a, l, x, rfl, ha, hx, q⟩ := h
    refine ⟨_, (pss_one (ps_ret (pe_ix (ix_listK (K := K)) (pv 0) (pe_op op_mod (pe_op op_add (pe_bm PySem.F.plainAttrs_list PySem.F.slot_list_index PySem.F.type_list_index (mt_indexK (K := K)) (pv 0) (pa_cons (pv 1) pa_nil)) pe_int) (pe_callB (call_lenK (K := K)) (by rfl) T.n_len (by decide +kernel) (pa_cons (pv 0) pa_nil))) (fun _ _ => rfl)))), ?_⟩
    obtain ⟨j, g1, g2, g3, h1, h2, h3, h4⟩ := ixS hx
    refine ⟨_, rfl, _, rfl, .inl ⟨rfl, _, ha⟩, _, rfl, a, _, _, j, _, rfl, rfl, ha, rfl, flat_strs l, g1, g2, g3, _, _, rfl, rfl, _, rfl, _, _, rfl, .inl ha, _, _, rfl, rfl, ?_, _, _, _, _, rfl, rfl, ha, at_map V.str (j := (j + 1) % l.length) ?_ h4, q⟩
    · rw [List.length_map]; omega
    · rw [List.length_map]; exact cast_mod _ _

def spFaceFrom (K : PySem.W.Frag) : Sp := fun vs H Q _ => ∃ (M : List Addr) (d t : Addr) (rows : List Row) (p q : Str) (r : List (Str × Str)), vs = [.ref d, .ref t] ∧ Al M H ∧ RdsAt K (wo H M) d rows ∧ T2 K (wo H M) t (p, q) ∧ Wf (vsf rows) (rdf rows) ∧ (∀ v ∈ vsf rows, Nm v) ∧
  (∀ x ∈ (p, q) :: r, x ∈ darts (vsf rows) (rdf rows)) ∧ Path (fs (rdf rows)) (p, q) r (p, q) ∧ ((p, q) :: r).Nodup ∧ r.length ≤ 9000 ∧
  ∀ (l : Addr) (H' : Hp), Same H H' → LR K (T2 K) (wo H' M) l ((p, q) :: r) → Q (.ref l) H'
theorem ok_face_from (T : Txt K mg C cx) : Cal P w K mg base 2 "face_from" (spFaceFrom K) := by
  refine cal_of T.d_face_from sc_face_from (fun vs H Q E h => ?_) (fun f cdv A outer s H vs Q E hr h => ?_)
  · obtain ⟨M, d, t, rows, p, q, r, rfl, _⟩ := h
    rfl
  · obtain ⟨M, d, t, rows, p, q, r, rfl, al, hd, ht, wf, hnm, hin, hp, hnd, hlen, k⟩ := h
    refine ⟨_, (pss_cons (ps_set (i := 2) sc_face_from.nd rfl (Or.inl rfl) (pe_lst (pa_cons (pv 1) pa_nil)))
      (pss_cons (ps_asg (pv 1) (pg_tupK (K := K) 2 (by rfl) (pgs_cons (pg_name (i := 3) sc_face_from.nd rfl (Or.inl rfl)) (pgs_cons (pg_name (i := 4) sc_face_from.nd rfl (Or.inl rfl)) pgs_nil))))
      (pss_cons (ps_set (i := 5) sc_face_from.nd rfl (Or.inl rfl) (pe_tup (pa_cons (pv 4) (pa_cons (pe_c (ok_behind T) hr (by decide) (by rfl) (pa_cons (pe_dget (hu_of hr) (pv 0) (pv 4) (fun _ _ => rfl)) (pa_cons (pv 3) pa_nil))) pa_nil))))
      (pss_cons (ps_while PassesOwn.never (pt_cmpR (op_neK (K := K) (Str × Str) hr.units) (pv 5) (pv 1) (nomark _)) (pss_cons (ps_expr (pe_bm PySem.F.plainAttrs_list PySem.F.slot_list_append PySem.F.type_list_append mt_append (pv 2) (pa_cons (pv 5) pa_nil)))
      (pss_cons (ps_asg (pv 5) (pg_tupK (K := K) 2 (by rfl) (pgs_cons (pg_name (i := 3) sc_face_from.nd rfl (Or.inl rfl)) (pgs_cons (pg_name (i := 4) sc_face_from.nd rfl (Or.inl rfl)) pgs_nil))))
      (pss_one (ps_set (i := 5) sc_face_from.nd rfl (Or.inl rfl) (pe_tup (pa_cons (pv 4) (pa_cons (pe_c (ok_behind T) hr (by decide) (by rfl) (pa_cons (pe_dget (hu_of hr) (pv 0) (pv 4) (fun _ _ => rfl)) (pa_cons (pv 3) pa_nil))) pa_nil))))))))
      (pss_one (ps_ret (pv 2))))))), ?_⟩
    have nxt : ∀ (c : Str × Str), c ∈ darts (vsf rows) (rdf rows) → c.2 ∈ vsf rows ∧ c.1 ∈ rdf rows c.2 := fun c hc => by
      obtain ⟨x, y⟩ := mem_darts.mp hc
      obtain ⟨a, _, b⟩ := wf.ties c.1 x c.2 y
      exact ⟨a, b⟩
    refine ⟨_, rfl, by show 1 ≤ sizeLine; decide, fun l hl => ?_⟩
    have s0 : Same H (upd H l (.lst [.ref t])) := .new hl
    refine ⟨_, rfl, t, _, rfl, SqT.of (up s0 (rd ht)), rfl, _, _, rfl, _, _, rfl, rfl, ?_⟩
    obtain ⟨hq1, hq2⟩ := nxt (p, q) (hin _ (by simp))
    obtain ⟨a1, g1, e1⟩ := (up s0 (rd hd)).get hq1
    refine ⟨_, rfl, _, rfl, _, rfl, d, _, rfl, g1, _, rfl, a1, _, p, rfl, e1, hq2, by show 2 ≤ sizeLine; decide, fun t1 ht1 => ?_⟩
    refine ⟨fun m σ H' => ∃ (r1 r2 : List (Str × Str)) (ts : List Addr) (tc : Addr) (pp qq : Option V), r = r1 ++ r2 ∧ m = r2.length ∧ σ = [some (.ref d), some (.ref t), some (.ref l), pp, qq, some (.ref tc)] ∧ Same H H' ∧ H' l = some (.lst (ts.map V.ref)) ∧ Paired (T2 K (wo H' (l :: M))) ts ((p, q) :: r1) ∧ T2 K (wo H' (l :: M)) tc ((r2 ++ [(p, q)]).headD (p, q)), ?_, ?_⟩
    · have s1 := s0.trans (.new (o := .tup [.str q, .str (nx (rdf rows q) p)]) ht1)
      refine ⟨r.length, [], r, [t], t1, _, _, rfl, rfl, rfl, s1, Same.new ht1 _ _ upd_same, .cons (up (wo_ext1 s1 hl) ht) .nil, ?_⟩
      rw [← path_next hp]
      refine T2.of upd_same fun z => ?_
      rcases List.mem_cons.mp z with z | z
      · rw [z, upd_same] at ht1; cases ht1
      · exact (al.same s0).fresh ht1 z
    · rintro m σ H' ⟨r1, r2, ts, tc, pp, qq, er, rfl, rfl, sm, hL, hT, hc⟩
      refine ⟨_, rfl, _, rfl, _, _, (rd hc).dp, (up sm (rd ht)).dp, _, rfl, ?_⟩
      cases r2 with
      | nil =>
        refine iteNe ⟨_, rfl, k l H' sm (LR.app hL (al.fresh hl) ?_)⟩
        rw [er, List.append_nil]
        exact hT
      | cons c r2 =>
        have hcin : c ∈ (p, q) :: r := by rw [er]; simp
        have hne : c ≠ (p, q) := fun e => by
          rw [er, e] at hnd
          exact (List.nodup_cons.mp hnd).1 (by simp)
        refine iteEq hne ⟨fun σ' H2 => ∃ (ts : List Addr) (tc : Addr) (pp qq : Option V), σ' = [some (.ref d), some (.ref t), some (.ref l), pp, qq, some (.ref tc)] ∧ Same H H2 ∧ H2 l = some (.lst (ts.map V.ref)) ∧ Paired (T2 K (wo H2 (l :: M))) ts ((p, q) :: (r1 ++ [c])) ∧ T2 K (wo H2 (l :: M)) tc ((r2 ++ [(p, q)]).headD (p, q)), ?_, ?_⟩
        · rintro σ' H2 ⟨ts, tc, pp, qq, h1, h2, h3, h4, h5⟩
          exact ⟨r2.length, Nat.lt_succ_self _, r1 ++ [c], r2, ts, tc, pp, qq, by rw [er]; simp, rfl, h1, h2, h3, h4, h5⟩
        · have hts : ts.length ≤ 9001 := by
            rw [Paired.length hT, List.length_cons]
            have : r.length = r1.length + (r2.length + 1) := by rw [er]; simp
            omega
          refine ⟨_, rfl, .inl ⟨rfl, _, SqL.of hL⟩, _, rfl, l, _, _, rfl, rfl, hL, by rw [List.length_map]; exact Nat.lt_of_le_of_lt hts (by decide), ?_⟩
          have s2 : Same H (upd H' l (.lst (ts.map V.ref ++ [.ref tc]))) := sm.mut hl
          have hc2 : T2 K (wo (upd H' l (.lst (ts.map V.ref ++ [.ref tc]))) (l :: M)) tc c := by rw [wo_mut (by simp)]; exact hc
          refine ⟨_, rfl, tc, _, rfl, SqT.of (rd hc2), rfl, _, _, rfl, _, _, rfl, rfl, ?_⟩
          obtain ⟨hc1, hc3⟩ := nxt c (hin c hcin)
          obtain ⟨a2, g2, e2⟩ := (up s2 (rd hd)).get hc1
          refine ⟨_, rfl, _, rfl, _, rfl, d, _, rfl, g2, _, rfl, a2, _, c.1, rfl, e2, hc3, by show 2 ≤ sizeLine; decide, fun t2 ht2 => ?_⟩
          have s3 : Same (upd H' l (.lst (ts.map V.ref ++ [.ref tc]))) (upd (upd H' l (.lst (ts.map V.ref ++ [.ref tc]))) t2 (.tup [.str c.2, .str (nx (rdf rows c.2) c.1)])) := .new ht2
          refine ⟨ts ++ [tc], t2, _, _, rfl, s2.trans s3, ?_, ?_, ?_⟩
          · refine s3 _ _ ?_
            rw [upd_same, List.map_append]
            rfl
          · have e0 : (p, q) :: (r1 ++ [c]) = ((p, q) :: r1) ++ [c] := rfl
            rw [e0]
            refine ups s3 (paired_snoc ?_ hc2)
            rw [wo_mut (by simp)]
            exact hT
          · have e := path_next (path_app.mp (by rw [er] at hp; exact hp)).2
            rw [← e]
            refine T2.of upd_same fun z => ?_
            rcases List.mem_cons.mp z with z | z
            · rw [z, upd_same] at ht2; cases ht2
            · exact (al.same s2).fresh ht2 z
end
end Five
end
section
namespace Five
open PySem PySem.Spec PyProof.Rows L2
section
variable {P : Program} {w : World} {K : PySem.W.Frag} {mg : Str → Option Value} {base : Heap} {C : Addr} {cx : Nat → Addr}
def spFromLeast (K : PySem.W.Frag) : Sp := fun vs H Q _ => ∃ (a : Addr) (l : List Str), vs = [.ref a] ∧ LS K H a l ∧ (∀ x ∈ l, Nm x) ∧ l.length ≤ 3000 ∧ ∀ p H', Same H H' → H p = none → H' p = some (.lst ((fl l).map V.str)) → Q (.ref p) H'
theorem ok_from_least (T : Txt K mg C cx) : Cal P w K mg base 1 "from_least" (spFromLeast K) := by
  refine cal_of T.d_from_least sc_from_least (fun vs H Q E h => ?_) (fun f cdv A outer s H vs Q E hr h => ?_)
  · obtain ⟨a, l, rfl, _⟩ := h
    rfl
  · obtain ⟨a, l, rfl, ha, hnm, hlen, k⟩ := h
    refine ⟨_, (pss_cons (ps_if (pt_cmpR (op_eqK (K := K) (List Str) hr.units) (pv 0) (pe_lst pa_nil) (nomark _)) (pss_one (ps_ret (pe_lst pa_nil))) pss_nil)
      (pss_cons (ps_set (i := 1) sc_from_least.nd rfl (Or.inl rfl) (pe_bm PySem.F.plainAttrs_list PySem.F.slot_list_index PySem.F.type_list_index (mt_indexK (K := K)) (pv 0) (pa_cons (pe_callB (cr_minSK (K := K) rfl hr.units) (by rfl) T.n_min (by decide +kernel) (pa_cons (pv 0) pa_nil)) pa_nil)))
      (pss_one (ps_ret (pe_op op_cat (pe_slice (sl_listK (K := K)) (pv 0) (po_some (pv 1)) po_none) (pe_slice (sl_listK (K := K)) (pv 0) po_none (po_some (pv 1)))))))), ?_⟩
    refine ⟨_, rfl, Nat.zero_le _, fun e he => ?_⟩
    have s0 : Same H (upd H e (.lst [])) := Same.new he
    refine ⟨_, _, (up s0 ha).dp, nil_dp (SqL.of upd_same), _, rfl, ?_⟩
    cases l with
    | nil =>
      refine iteYes rfl ⟨Nat.zero_le _, fun p hp => ?_⟩
      exact k p _ (s0.trans (Same.new hp)) (s0.free hp) upd_same
    | cons x r =>
      refine iteNo (fun z => (nomatch z)) ?_
      have ha1 : LS K _ a (x :: r) := up s0 ha
      refine ⟨_, rfl, .inl ⟨rfl, _, ha1⟩, _, rfl, a, x :: r, rfl, ha1, by simp, fun m hm hmin => ?_⟩
      obtain ⟨j, g1, g2, g3, h1, h2, h3, h4⟩ := ixS hm
      refine ⟨a, _, _, j, _, rfl, rfl, ha1, rfl, flat_strs _, g1, g2, g3, ?_⟩
      refine ⟨_, rfl, _, rfl, _, rfl, a, _, rfl, ha1, fun p1 hp1 => ?_⟩
      have s1 : Same (upd H e (.lst [])) (upd (upd H e (.lst [])) p1 (.lst (cutV ((x :: r).map V.str) (some (j : Int)) none))) := Same.new hp1
      refine ⟨_, rfl, _, rfl, _, rfl, a, _, rfl, up s1 ha1, fun p2 hp2 => ?_⟩
      have s2 := Same.new (o := .lst (cutV ((x :: r).map V.str) none (some (j : Int)))) hp2
      refine ⟨p1, p2, _, _, rfl, rfl, s2 _ _ upd_same, upd_same, ?_, fun p3 hp3 => ?_⟩
      · rw [cut_from, cut_to, List.length_drop, List.length_take, List.length_map]
        exact Nat.le_trans (show _ ≤ 3000 + 3000 by omega) (by decide)
      · refine k p3 _ (((s0.trans s1).trans s2).trans (Same.new hp3)) (((s0.trans s1).trans s2).free hp3) ?_
        rw [upd_same, cut_from, cut_to, fl_of (by simp) hm hmin h1 h2, List.map_append, List.map_drop, List.map_take]

/-- a piece, as come_to wants it -/
structure Pc (rows : List Row) (c : List Str) : Prop where
  nd : c.Nodup
  sub : ∀ x ∈ c, x ∈ vsf rows
  shut : ∀ v ∈ c, ∀ u ∈ rdf rows v, u ∈ c
  conn : ∀ S : Str → Prop, (∀ v u, v ∈ c → S v → u ∈ rdf rows v → S u) → ∀ v ∈ c, S v → ∀ u ∈ c, S u
def spComeTo (K : PySem.W.Frag) : Sp := fun vs H Q _ => ∃ (d : Addr) (rows : List Row) (v : Str) (c : List Str), vs = [.ref d, .str v] ∧ RdsAt K H d rows ∧ (∀ x ∈ vsf rows, Nm x) ∧ Pc rows c ∧ v ∈ c ∧ c.length ≤ 60 ∧
  ∀ (p : Addr) (H' : Hp), Same H H' → H p = none → H' p = some (.lst ((srt c).map V.str)) → Q (.ref p) H'
theorem ok_come_to (T : Txt K mg C cx) : Cal P w K mg base 1 "come_to" (spComeTo K) := by
  refine cal_of T.d_come_to sc_come_to (fun vs H Q E h => ?_) (fun f cdv A outer s H vs Q E hr h => ?_)
  · obtain ⟨d, rows, v, c, rfl, _⟩ := h
    rfl
  · obtain ⟨d, rows, v, c, rfl, hd, hnm, pc, hv, hlen, k⟩ := h
    refine ⟨_, (pss_cons (ps_set (i := 2) sc_come_to.nd rfl (Or.inl rfl) (pe_disp (pps_cons (pv 1) pe_bl pps_nil) (by rfl) (by rfl) (fun z => by cases z) (by decide)))
      (pss_cons (ps_set (i := 3) sc_come_to.nd rfl (Or.inl rfl) (pe_lst (pa_cons (pv 1) pa_nil)))
      (pss_cons (ps_while PassesOwn.never (pt_cmpR (op_neK (K := K) (List Str) hr.units) (pv 3) (pe_lst pa_nil) (nomark _)) (pss_one (ps_for PassesOwn.never (by rfl) (pi_list (pe_dget (hu_of hr) (pv 0) (pe_bm0 PySem.F.plainAttrs_list PySem.F.slot_list_pop PySem.F.type_list_pop mt_pop (pv 3)) (fun _ _ => rfl))) (pg_name (i := 4) sc_come_to.nd rfl (Or.inl rfl)) (pss_one (ps_if (pt_cmp (pc_dnotin (hu_of hr) (pv 4) (pv 2))) (pss_cons (ps_dput (hu_of hr) (pv 2) (pv 4) pe_bl rfl)
      (pss_one (ps_expr (pe_bm PySem.F.plainAttrs_list PySem.F.slot_list_append PySem.F.type_list_append mt_append (pv 3) (pa_cons (pv 4) pa_nil))))) pss_nil)))))
      (pss_one (ps_ret (pe_callB (call_srtD rfl) (by rfl) T.n_sorted (by decide +kernel) (pa_cons (pv 2) pa_nil))))))), ?_⟩
    intro fd hfd
    refine ⟨_, rfl, upd_same, [(Sum.inr v, .bl true)], rfl, (by show 1 ≤ 15; decide), ?_⟩
    refine ⟨_, rfl, (by show 1 ≤ sizeLine; decide), fun wd hwd => ?_⟩
    have sf : Same H (upd (upd H fd (.dK [])) fd (.dK (mergeK [] [(Sum.inr v, .bl true)]))) := by
      rw [upd_upd]
      exact Same.new hfd
    have nwf : wd ≠ fd := fun e => by rw [e, upd_same] at hwd; cases hwd
    have hwd0 : H wd = none := sf.free hwd
    refine ⟨fun m σ H' => ∃ (fnd wt : List Str) (oth : Option V), σ = [some (.ref d), some (.str v), some (.ref fd), some (.ref wd), oth] ∧ Same H H' ∧ H' fd = some (.dK (tk fnd)) ∧ H' wd = some (.lst (wt.map V.str)) ∧ fnd.Nodup ∧ (∀ x ∈ fnd, x ∈ c) ∧ v ∈ fnd ∧ (∀ x ∈ wt, x ∈ fnd) ∧
      (∀ x ∈ fnd, x ∉ wt → ∀ u ∈ rdf rows x, u ∈ fnd) ∧ m = 2 * (c.length - fnd.length) + wt.length ∧ wt.length ≤ fnd.length, ?_, ?_⟩
    · refine ⟨_, [v], [v], none, rfl, sf.trans (Same.new hwd), ?_, upd_same, by simp, fun x hx => ?_, by simp, fun x hx => hx, fun x hx hn => absurd hx hn, rfl, Nat.le_refl _⟩
      · rw [upd_ne nwf.symm, upd_same]
        rfl
      · rw [List.mem_singleton.mp hx]; exact hv
    · rintro m σ H' ⟨fnd, wt, oth, rfl, sm, hF, hW, nd, sub, hvf, hwf, done, rfl, hle⟩
      have hfl : fnd.length ≤ 60 := Nat.le_trans (nodup_le nd sub) hlen
      have hnw : ∀ x ∈ wt, Nm x := fun x hx => hnm x (pc.sub x (sub x (hwf x hx)))
      refine ⟨_, rfl, Nat.zero_le _, fun e he => ?_⟩
      have s1 : Same H' (upd H' e (.lst [])) := Same.new he
      refine ⟨_, _, LS.dp (SqL.of (s1 _ _ hW)), nil_dp (SqL.of upd_same), _, rfl, ?_⟩
      by_cases hwt : wt = []
      · subst hwt
        refine iteNe ?_
        have perm : fnd.Perm c := perm_of_mem nd pc.nd fun x => ⟨sub x, fun hx => pc.conn (· ∈ fnd) (fun a b ha hs hb => done a hs (by simp) b hb) v hv hvf x hx⟩
        refine ⟨_, rfl, fd, tk fnd, fnd, rfl, .inl (s1 _ _ hF), tk_keys fnd, by omega, fun p hn => ?_⟩
        exact k p _ ((sm.trans s1).trans (Same.new hn)) ((sm.trans s1).free hn) (by rw [srt_congr perm.symm]; exact upd_same)
      · obtain ⟨w0, x, rfl⟩ : ∃ w0 x, wt = w0 ++ [x] := ⟨wt.dropLast, wt.getLast hwt, (List.dropLast_concat_getLast hwt).symm⟩
        have hxf : x ∈ fnd := hwf x (by simp)
        have hxr := pc.sub x (sub x hxf)
        refine iteEq hwt ⟨fun σ' H2 => ∃ m', m' < 2 * (c.length - fnd.length) + (w0 ++ [x]).length ∧ ∃ (fnd wt : List Str) (oth : Option V), σ' = [some (.ref d), some (.str v), some (.ref fd), some (.ref wd), oth] ∧ Same H H2 ∧ H2 fd = some (.dK (tk fnd)) ∧ H2 wd = some (.lst (wt.map V.str)) ∧ fnd.Nodup ∧ (∀ x ∈ fnd, x ∈ c) ∧ v ∈ fnd ∧ (∀ x ∈ wt, x ∈ fnd) ∧
          (∀ x ∈ fnd, x ∉ wt → ∀ u ∈ rdf rows x, u ∈ fnd) ∧ m' = 2 * (c.length - fnd.length) + wt.length ∧ wt.length ≤ fnd.length, fun _ _ z => z, ?_⟩
        have hW1 := s1 _ _ hW
        refine ⟨_, rfl, _, rfl, .inl ⟨rfl, _, SqL.of hW1⟩, wd, (w0 ++ [x]).map V.str, .str x, rfl, rfl, hW1, by simp, ?_⟩
        have e1 : ((w0 ++ [x]).map V.str).dropLast = w0.map V.str := by simp
        rw [e1]
        have s2 : Same H (upd (upd H' e (.lst [])) wd (.lst (w0.map V.str))) := (sm.trans s1).mut hwd0
        obtain ⟨ax, e2, g1⟩ := hd.at hxr
        refine ⟨d, _, rfl, g1 _ s2.sm, ax, rfl, ⟨_, up s2 e2⟩, for_list (K := K) (a := ax) (xs := (rdf rows x).map V.str) (fun i σ' H2 => ∃ (more : List Str) (oth : Option V), σ' = [some (.ref d), some (.str v), some (.ref fd), some (.ref wd), oth] ∧ Same H H2 ∧ H2 fd = some (.dK (tk (fnd ++ more))) ∧ H2 wd = some (.lst ((w0 ++ more).map V.str)) ∧ (fnd ++ more).Nodup ∧ (∀ y ∈ more, y ∈ c) ∧ (∀ u ∈ (rdf rows x).take i, u ∈ fnd ++ more)) ?_ ?_ ?_ ?_⟩
        · refine ⟨[], oth, rfl, s2, ?_, ?_, by simpa using nd, (fun y hy => (nomatch hy)), fun u hu => by simp at hu⟩
          · rw [upd_ne nwf.symm, List.append_nil]
            exact s1 _ _ hF
          · rw [upd_same, List.append_nil]
        · rintro i σ' H2 _ ⟨more, oth, _, sm2, _⟩
          exact up sm2 e2
        · rintro i y σ' H2 hi ⟨more, oth, rfl, sm2, hF2, hW2, nd2, sub2, hu2⟩
          obtain ⟨u, hu, rfl⟩ : ∃ u, (rdf rows x)[i]? = some u ∧ y = V.str u := by
            rw [List.getElem?_map] at hi
            cases e : (rdf rows x)[i]? with
            | none => rw [e] at hi; cases hi
            | some u => rw [e] at hi; exact ⟨u, rfl, (Option.some.inj hi).symm⟩
          have hur : u ∈ rdf rows x := List.mem_of_getElem? hu
          have huc : u ∈ c := pc.shut x (sub x hxf) u hur
          have htake : (rdf rows x).take (i + 1) = (rdf rows x).take i ++ [u] := by rw [List.take_add_one, hu]; rfl
          have hl2 : (fnd ++ more).length ≤ 60 := Nat.le_trans (nodup_le nd2 fun z hz => (List.mem_append.mp hz).elim (sub z) (sub2 z)) hlen
          refine ⟨_, rfl, _, rfl, fd, _, rfl, dget_tk u hF2, _, rfl, ?_⟩
          by_cases hm : u ∈ fnd ++ more
          · rw [if_pos hm]
            refine iteF ⟨more, _, rfl, sm2, hF2, hW2, nd2, sub2, fun z hz => ?_⟩
            rw [htake] at hz
            rcases List.mem_append.mp hz with q | q
            · exact hu2 z q
            · rw [List.mem_singleton.mp q]; exact hm
          · rw [if_neg hm]
            refine iteT ⟨_, rfl, _, rfl, fd, _, rfl, DPut.k (k := Sum.inr u) hF2 (by unfold tk; rw [List.length_map]; exact Nat.lt_of_le_of_lt hl2 (by decide)), ?_⟩
            have hW3 : upd H2 fd (.dK (putK (tk (fnd ++ more)) (Sum.inr u) (.bl true))) wd = some (.lst ((w0 ++ more).map V.str)) := by
              rw [upd_ne nwf]; exact hW2
            refine ⟨_, rfl, .inl ⟨rfl, _, SqL.of hW3⟩, _, rfl, wd, _, _, rfl, rfl, hW3, ?_, ?_⟩
            · rw [List.length_map]
              have : (w0 ++ more).length ≤ (fnd ++ more).length := by
                simp only [List.length_append, List.length_singleton] at hle ⊢
                omega
              exact Nat.lt_of_le_of_lt (Nat.le_trans this hl2) (by decide)
            · refine ⟨more ++ [u], _, rfl, (sm2.mut hfd).mut hwd0, ?_, ?_, ?_, fun z hz => ?_, fun z hz => ?_⟩
              · rw [upd_ne nwf.symm, upd_same, putK_tk hm, List.append_assoc]
              · rw [upd_same]; simp
              · rw [← List.append_assoc]
                refine List.nodup_append.mpr ⟨nd2, by simp, fun a ha b hb e => hm ?_⟩
                rw [← List.mem_singleton.mp hb, ← e]; exact ha
              · rcases List.mem_append.mp hz with q | q
                · exact sub2 z q
                · rw [List.mem_singleton.mp q]; exact huc
              · rw [htake] at hz
                rw [← List.append_assoc]
                rcases List.mem_append.mp hz with q | q
                · exact List.mem_append_left _ (hu2 z q)
                · exact List.mem_append_right _ q
        · rintro σ' H2 ⟨more, oth, rfl, sm2, hF2, hW2, nd2, sub2, hu2⟩
          have hlm : (fnd ++ more).length ≤ c.length := nodup_le nd2 fun z hz => (List.mem_append.mp hz).elim (sub z) (sub2 z)
          refine ⟨_, ?_, fnd ++ more, w0 ++ more, _, rfl, sm2, hF2, hW2, nd2, fun z hz => (List.mem_append.mp hz).elim (sub z) (sub2 z), List.mem_append_left _ hvf, fun z hz => ?_, fun z hz hn u hu => ?_, rfl, ?_⟩
          · simp only [List.length_append, List.length_singleton] at hlm ⊢
            omega
          · rcases List.mem_append.mp hz with q | q
            · exact List.mem_append_left _ (hwf z (by simp [q]))
            · exact List.mem_append_right _ q
          · by_cases ezx : z = x
            · rw [ezx] at hu
              exact hu2 u (by rw [List.length_map, List.take_length]; exact hu)
            · have hzf : z ∈ fnd := (List.mem_append.mp hz).resolve_right fun q => hn (List.mem_append_right _ q)
              exact List.mem_append_left _ (done z hzf (fun q => by
                rcases List.mem_append.mp q with q | q
                · exact hn (List.mem_append_left _ q)
                · exact ezx (List.mem_singleton.mp q)) u hu)
          · simp only [List.length_append, List.length_singleton] at hle ⊢
            omega
end
end Five
end
section
namespace Five
open PySem PySem.Spec PyProof.Rows L2
open PySem.W (Datum DatumOrd)
section
variable {P : Program} {w : World} {K : PySem.W.Frag} {mg : Str → Option Value} {base : Heap} {C : Addr} {cx : Nat → Addr}
def spPiecesIn (K : PySem.W.Frag) : Sp := fun vs H Q _ => ∃ (M : List Addr) (d : Addr) (rows : List Row) (ps : List (List Str)), vs = [.ref d] ∧ Al M H ∧ RdsAt K (wo H M) d rows ∧ (∀ x ∈ vsf rows, Nm x) ∧ (vsf rows).Nodup ∧ CD (vsf rows) (rdf rows) ps ∧ rows.length ≤ 60 ∧
  ∀ (l : Addr) (H' : Hp), Same H H' → NewLL H H' l (srt (ps.map srt)) → Q (.ref l) H'
theorem ok_pieces_in (T : Txt K mg C cx) : Cal P w K mg base 2 "pieces_in" (spPiecesIn K) := by
  refine cal_of T.d_pieces_in sc_pieces_in (fun vs H Q E h => ?_) (fun f cdv A outer s H vs Q E hr h => ?_)
  · obtain ⟨M, d, rows, ps, rfl, _⟩ := h
    rfl
  · obtain ⟨M, d, rows, ps, rfl, al, hd, hnm, hnd, cd, hlen, k⟩ := h
    refine ⟨_, (pss_cons (ps_set (i := 1) sc_pieces_in.nd rfl (Or.inl rfl) (pe_lst pa_nil))
      (pss_cons (ps_set (i := 2) sc_pieces_in.nd rfl (Or.inl rfl) pe_dnewK)
      (pss_cons (ps_for PassesOwn.never (by rfl) (pi_list (pe_callB (call_srtD rfl) (by rfl) T.n_sorted (by decide +kernel) (pa_cons (pv 0) pa_nil))) (pg_name (i := 3) sc_pieces_in.nd rfl (Or.inl rfl)) (pss_one (ps_if (pt_cmp (pc_dnotin (hu_of hr) (pv 3) (pv 2))) (pss_cons (ps_set (i := 4) sc_pieces_in.nd rfl (Or.inl rfl) (pe_c (ok_come_to T) hr (by decide) (by rfl) (pa_cons (pv 0) (pa_cons (pv 3) pa_nil))))
      (pss_cons (ps_expr (pe_bm PySem.F.plainAttrs_dict PySem.F.slot_dict_update PySem.F.type_dict_update (mt_updatePK (K := K) rfl) (pv 2) (pa_cons (pe_lc (own := [("one", 5)]) (by rfl) sc_pieces_in.nd (pi_list (pv 4)) (blkOk_by (own := [("one", 5)]) (N := N_pieces_in) (sc := defScope s_pieces_in) (by decide +kernel)) (fun _ _ _ _ _ => (pg_name (i := 5) sc_pieces_in.nd rfl (Or.inl rfl))) (fun _ _ _ _ _ => pts_nil) (fun _ _ _ _ _ => (pe_tup (pa_cons (pv 5) (pa_cons pe_bl pa_nil))))) pa_nil)))
      (pss_one (ps_expr (pe_bm PySem.F.plainAttrs_list PySem.F.slot_list_append PySem.F.type_list_append mt_append (pv 1) (pa_cons (pv 4) pa_nil)))))) pss_nil)))
      (pss_one (ps_ret (pv 1)))))), ?_⟩
    have hvl : (vsf rows).length ≤ 60 := by rw [List.length_map]; exact hlen
    have hfn : ps.flatten.Nodup := cd.perm.nodup_iff.mpr hnd
    have pcOf : ∀ c ∈ ps, Pc rows c := fun c hc => ⟨by
        obtain ⟨rest, hp⟩ := perm_head hc
        have := (hp.flatten.nodup_iff).mp hfn
        rw [List.flatten_cons] at this
        exact (List.nodup_append.mp this).1, fun x hx => cd.perm.mem_iff.mp (List.mem_flatten.mpr ⟨c, hc, hx⟩), cd.shut c hc, (cd.conn c hc).2⟩
    have pcLen : ∀ c ∈ ps, c.length ≤ 60 := fun c hc => Nat.le_trans (nodup_le (pcOf c hc).nd (pcOf c hc).sub) hvl
    refine ⟨Nat.zero_le _, fun l hl => ?_⟩
    intro sd hsd
    have s0 : Same H (upd H l (.lst [])) := .new hl
    have s1 := s0.trans (.new (o := .dK []) hsd)
    have hsd0 : H sd = none := s0.free hsd
    have nls : l ≠ sd := fun e => by rw [← e, upd_same] at hsd; cases hsd
    obtain ⟨kvs, hk1, hk2⟩ := up s1 (rd hd)
    refine ⟨_, rfl, d, kvs, vsf rows, rfl, hk1, rds_keys hk2, by omega, fun a ha => ?_⟩
    have s2 := s1.trans (.new (o := .lst ((srt (vsf rows)).map V.str)) ha)
    have ha0 : H a = none := s1.free ha
    have nal : a ≠ l := fun e => by rw [e, upd_ne nls, upd_same] at ha; cases ha
    have nas : a ≠ sd := fun e => by rw [e, upd_same] at ha; cases ha
    generalize hss : srt (vsf rows) = ss at *
    have sspw : ss.Pairwise (fun a b => leD a b = true) := by rw [← hss]; exact srt_pw _
    have ssn : ss.Nodup := by rw [← hss]; exact (srt_perm _).nodup_iff.mpr hnd
    have ssm : ∀ x, x ∈ ss ↔ x ∈ vsf rows := fun x => by rw [← hss]; exact srt_mem
    refine ⟨a, rfl, ⟨_, SqL.of upd_same⟩, for_list (K := K) (a := a) (xs := ss.map V.str) (fun i σ H' => ∃ (dn td : List (List Str)) (as : List Addr) (x y z : Option V), σ = [some (.ref d), some (.ref l), some (.ref sd), x, y, z] ∧ Same H H' ∧ H' a = some (.lst (ss.map V.str)) ∧ H' l = some (.lst (as.map V.ref)) ∧ H' sd = some (.dK (tk (dn.map srt).flatten)) ∧ Paired (LsN H (wo H' (l :: sd :: M))) as (dn.map srt) ∧ ps.Perm (dn ++ td) ∧
      (∀ u ∈ ss.take i, u ∈ dn.flatten) ∧ (dn.map srt).Pairwise (fun a b => leD a b = true) ∧ ∀ c ∈ dn, ∃ h t, srt c = h :: t ∧ h ∈ ss.take i) ?_ ?_ ?_ ?_⟩
    · refine ⟨[], ps, [], _, _, _, rfl, s2, upd_same, ?_, ?_, .nil, .refl _, fun u hu => by simp at hu, .nil, fun c hc => (nomatch hc)⟩
      · rw [upd_ne nal.symm, upd_ne nls, upd_same]; rfl
      · rw [upd_ne nas.symm, upd_same]; rfl
    · rintro i σ H' _ ⟨dn, td, as, x, y, z, _, _, hA, _⟩
      exact SqL.of hA
    · rintro i y σ H' hi ⟨dn, td, as, x, y', z, rfl, sm, hA, hL, hS, hP, hps, htk, hpw, hhd⟩
      obtain ⟨u, hu, rfl⟩ := item_str hi
      have huv : u ∈ vsf rows := (ssm u).mp (List.mem_of_getElem? hu)
      have hfl : ∀ v, v ∈ (dn.map srt).flatten ↔ v ∈ dn.flatten := fun v => by
        simp only [List.mem_flatten, List.mem_map]
        exact ⟨fun ⟨c, ⟨c', h1, h2⟩, h3⟩ => ⟨c', h1, by rw [← h2] at h3; exact srt_mem.mp h3⟩, fun ⟨c, h1, h2⟩ => ⟨srt c, ⟨c, h1, rfl⟩, srt_mem.mpr h2⟩⟩
      have hpf : (dn.flatten ++ td.flatten).Perm (vsf rows) := by
        rw [← List.flatten_append]
        exact (hps.flatten).symm.trans cd.perm
      have hnf : (dn.flatten ++ td.flatten).Nodup := hpf.nodup_iff.mpr hnd
      have hlf : (dn.map srt).flatten.length ≤ 60 := by
        have e1 := flat_srt_len dn
        have := hpf.length_eq
        rw [List.length_append] at this
        omega
      refine ⟨_, rfl, _, rfl, sd, _, rfl, dget_tk u hS, _, rfl, ?_⟩
      by_cases hm : u ∈ (dn.map srt).flatten
      · rw [if_pos hm]
        refine iteF ⟨dn, td, as, _, _, _, rfl, sm, hA, hL, hS, hP, hps, fun v hv => ?_, hpw, fun c hc => ?_⟩
        · rw [take_snoc hu] at hv
          rcases List.mem_append.mp hv with q | q
          · exact htk v q
          · rw [List.mem_singleton.mp q]; exact (hfl u).mp hm
        · obtain ⟨h, t, e1, e2⟩ := hhd c hc
          exact ⟨h, t, e1, by rw [take_snoc hu]; exact List.mem_append_left _ e2⟩
      · rw [if_neg hm]
        have hund : u ∉ dn.flatten := fun q => hm ((hfl u).mpr q)
        obtain ⟨c, hct, huc⟩ := List.mem_flatten.mp ((List.mem_append.mp (hpf.mem_iff.mpr huv)).resolve_left hund)
        have hcp : c ∈ ps := hps.mem_iff.mpr (List.mem_append_right _ hct)
        obtain ⟨td', hp2⟩ := perm_head hct
        have up0 : Same (wo H M) (wo H' (l :: sd :: M)) := wo_ext2 sm hl hsd0
        refine iteT ⟨_, rfl, _, rfl, d, rows, u, c, rfl, rd (up up0 hd), hnm, pcOf c hcp, huc, pcLen c hcp, fun p H2 s3 hp hpl => ?_⟩
        have hS2 := s3 _ _ hS
        have hL2 := s3 _ _ hL
        have al2 : Al (l :: sd :: M) H2 := (((al.same sm).cons hS).cons hL).same s3
        have pn : p ∉ l :: sd :: M := (((al.same sm).cons hS).cons hL).fresh hp
        have pN : LsN H (wo H2 (l :: sd :: M)) p (srt c) := LsN.of (sm.free hp) hpl pn
        have pS : LS K (wo H2 (l :: sd :: M)) p (srt c) := pN.ls
        refine ⟨_, rfl, .inr (.inr (.inl ⟨rfl, .inl ⟨_, hS2⟩⟩)), _, rfl, p, rfl, ⟨_, rd pS⟩, fun D hD => ?_⟩
        refine lcL (K := K) (M := l :: sd :: M) (paired_map V.str (srt c)) (fun G v x => ∃ t, v = .ref t ∧ SqT K G t [.str x, .bl true]) (fun G G' v x s ⟨t, e, h⟩ => ⟨t, e, s.sm.seqT h⟩) some hD al2 (by rw [srt_length]; exact Nat.lt_of_le_of_lt (pcLen c hcp) (by decide)) (rd pS) (fun v b H3 Ky Kn hb e s4 al4 ky kn => ?_) (fun ys H3 s4 hD3 hp3 => ?_)
        · subst e
          refine ⟨rfl, lcy ⟨_, rfl, by show 2 ≤ sizeLine; decide, fun t ht => ky _ _ _ rfl (.new ht) ⟨t, rfl, .inl (.inl ?_)⟩⟩⟩
          rw [wo_out (al4.fresh ht), upd_same]
        · rw [List.filterMap_some] at hp3
          obtain ⟨ts, rfl, hts⟩ := paired_refs hp3
          have hS3 := s4 _ _ hS2
          have hL3 := s4 _ _ hL2
          have hndc : ((dn.map srt).flatten ++ srt c).Nodup := by
            refine List.nodup_append.mpr ⟨?_, (srt_perm c).nodup_iff.mpr (pcOf c hcp).nd, fun v hv v' hv' e => ?_⟩
            · exact (flat_srt_perm dn).nodup_iff.mpr (List.nodup_append.mp hnf).1
            · subst e
              exact (List.nodup_append.mp hnf).2.2 v ((hfl v).mp hv) v (List.mem_flatten.mpr ⟨c, hct, srt_mem.mp hv'⟩) rfl
          refine ⟨sd, D, _, tk (srt c), ts, rfl, rfl, hS3, SqL.of hD3, ?_, ?_, ?_⟩
          · exact pairs_tk wo_same hts
          · rw [tk_length, tk_length, srt_length]
            exact Nat.le_trans (Nat.add_le_add hlf (pcLen c hcp)) (by decide)
          · rw [mergeK_tk _ _ hndc]
            have nDl : D ≠ l := fun e => by rw [e] at hD; rw [hL2] at hD; cases hD
            have nDs : D ≠ sd := fun e => by rw [e] at hD; rw [hS2] at hD; cases hD
            have hL4 : upd H3 sd (.dK (tk ((dn.map srt).flatten ++ srt c))) l = some (.lst (as.map V.ref)) := by rw [upd_ne nls]; exact hL3
            refine ⟨_, rfl, .inl ⟨rfl, _, SqL.of hL4⟩, _, rfl, l, _, _, rfl, rfl, hL4, ?_, ?_⟩
            · rw [List.length_map, Paired.length hP, List.length_map]
              have h2 : dn.length ≤ dn.flatten.length := flat_len_le fun c hc => (cd.conn c (hps.mem_iff.mpr (List.mem_append_left _ hc))).1
              have := hpf.length_eq
              rw [List.length_append] at this
              exact Nat.lt_of_le_of_lt (show dn.length ≤ 60 by omega) (by decide)
            · obtain ⟨hh, ht, ec, ehc, ele⟩ := srt_head (c := c) (cd.conn c hcp).1
              have ehu : hh = u := by
                cases q : DatumOrd.lt hh u with
                | true =>
                  exfalso
                  have h1 := srt_before sspw hu ((ssm hh).mpr ((pcOf c hcp).sub hh ehc)) q
                  exact (List.nodup_append.mp hnf).2.2 hh (htk hh h1) hh (List.mem_flatten.mpr ⟨c, hct, ehc⟩) rfl
                | false =>
                  have h2 := ele u huc
                  unfold leD at h2
                  exact lt_tri q (by simpa using h2)
              subst ehu
              have sfin : Same H (upd (upd H3 sd (.dK (tk ((dn.map srt).flatten ++ srt c)))) l (.lst (as.map V.ref ++ [.ref p]))) := ((((sm.trans s3).trans s4).mut hsd0).mut hl)
              refine ⟨dn ++ [c], td', as ++ [p], _, _, _, rfl, sfin, ?_, ?_, ?_, ?_, ?_, ?_, ?_, ?_⟩
              · rw [upd_ne nal, upd_ne nas]
                exact (s3.trans s4) _ _ hA
              · rw [upd_same]; simp
              · rw [upd_ne nls.symm, upd_same, List.map_append, List.flatten_append]; simp
              · rw [wo_mut (by simp), wo_mut (by simp), List.map_append]
                exact paired_snoc (ups (s3.trans s4) hP) (upw s4 pN)
              · refine hps.trans ?_
                rw [List.append_assoc]
                exact List.Perm.append_left _ hp2
              · intro v hv
                rw [take_snoc hu] at hv
                rw [List.flatten_append]
                rcases List.mem_append.mp hv with q | q
                · exact List.mem_append_left _ (htk v q)
                · rw [List.mem_singleton.mp q]; exact List.mem_append_right _ (by simpa using huc)
              · rw [List.map_append]
                refine List.pairwise_append.mpr ⟨hpw, by simp, fun q hq q' hq' => ?_⟩
                have eq' : q' = srt c := by simpa using hq'
                obtain ⟨c1, hc1, rfl⟩ := List.mem_map.mp hq
                obtain ⟨h1, t1, e1, e2⟩ := hhd c1 hc1
                rw [eq', e1, ec]
                unfold leD
                rw [lt_asym (lt_cons (srt_after sspw ssn hu e2))]
                rfl
              · intro c1 hc1
                rw [take_snoc hu]
                rcases List.mem_append.mp hc1 with q | q
                · obtain ⟨h1, t1, e1, e2⟩ := hhd c1 q
                  exact ⟨h1, t1, e1, List.mem_append_left _ e2⟩
                · rw [List.mem_singleton.mp q]
                  exact ⟨hh, ht, ec, by simp⟩
    · rintro σ H' ⟨dn, td, as, x, y, z, rfl, sm, hA, hL, hS, hP, hps, htk, hpw, hhd⟩
      have etd : td = [] := by
        cases td with
        | nil => rfl
        | cons c r =>
          exfalso
          have hcp : c ∈ ps := hps.mem_iff.mpr (by simp)
          obtain ⟨u, r', e⟩ := List.exists_cons_of_ne_nil (cd.conn c hcp).1
          have huc : u ∈ c := by rw [e]; simp
          have h1 : u ∈ dn.flatten := htk u (by rw [List.length_map, List.take_length]; exact (ssm u).mpr ((pcOf c hcp).sub u huc))
          have hnf : (dn ++ c :: r).flatten.Nodup := (hps.flatten.nodup_iff).mp hfn
          rw [List.flatten_append] at hnf
          exact (List.nodup_append.mp hnf).2.2 u h1 u (by simp [huc]) rfl
      subst etd
      rw [List.append_nil] at hps
      refine ⟨_, rfl, k l H' sm ?_⟩
      have e : dn.map srt = srt (ps.map srt) := srt_uniq (hps.symm.map srt) hpw
      rw [← e]
      exact ⟨as, by rw [nw_of hl]; exact hL, Paired.mapP hP fun _ _ q => nw_up wo_same _ _ q⟩
end
end Five
end
section
namespace Five
open PySem PySem.Spec PyProof.Rows L2
open PySem.W (Datum DatumOrd)
section
variable {P : Program} {w : World} {K : PySem.W.Frag} {mg : Str → Option Value} {base : Heap} {C : Addr} {cx : Nat → Addr}
def spFacesIn (K : PySem.W.Frag) : Sp := fun vs H Q _ => ∃ (M : List Addr) (d : Addr) (rows : List Row) (cs : List (List (Str × Str))), vs = [.ref d] ∧ Al M H ∧ RdsAt K (wo H M) d rows ∧ (∃ kvs, H d = some (.dK kvs)) ∧ (∀ x ∈ vsf rows, Nm x) ∧ Wf (vsf rows) (rdf rows) ∧ FD (vsf rows) (rdf rows) cs ∧ rows.length ≤ 60 ∧
  ∀ (l : Addr) (H' : Hp), Same H H' → NewLL H H' l (facesF rows cs) → Q (.ref l) H'
theorem ok_faces_in (T : Txt K mg C cx) : Cal P w K mg base 3 "faces_in" (spFacesIn K) := by
  refine cal_of T.d_faces_in sc_faces_in (fun vs H Q E h => ?_) (fun f cdv A outer s H vs Q E hr h => ?_)
  · obtain ⟨M, d, rows, cs, rfl, _⟩ := h
    rfl
  · obtain ⟨M, d, rows, cs, rfl, al, hd, hx, hnm, wf, F, hlen, k⟩ := h
    refine ⟨_, (pss_cons (ps_lock (ps_setLc (i := 1) (own := [("place", 3)]) (by rfl) sc_faces_in.nd rfl rfl (sw_true rfl rfl rfl (by decide +kernel)) (pi_keys (pv 0)) (blkOk_by (own := [("place", 3)]) (N := N_faces_in) (sc := defScope s_faces_in) (by decide +kernel)) (fun _ _ _ _ _ => (pg_name (i := 3) sc_faces_in.nd rfl (Or.inl rfl))) (fun _ _ _ _ _ => (pts_one (pt_cmpR (op_eqK (K := K) (List Str) hr.units) (pe_dget (hu_of hr) (pv 0) (pv 3) (fun _ _ => rfl)) (pe_lst pa_nil) (nomark _)))) (fun _ _ _ _ _ => (pe_lst (pa_cons (pv 3) pa_nil)))))
      (pss_cons (ps_set (i := 2) sc_faces_in.nd rfl (Or.inl rfl) pe_dnewT)
      (pss_cons (ps_for PassesOwn.never (by rfl) (pi_list (pe_callB (call_srtD rfl) (by rfl) T.n_sorted (by decide +kernel) (pa_cons (pv 0) pa_nil))) (pg_name (i := 3) sc_faces_in.nd rfl (Or.inl rfl)) (pss_one (ps_for PassesOwn.never (by rfl) (pi_list (pe_callB (cr_srtSK (K := K) hr.units) (by rfl) T.n_sorted (by decide +kernel) (pa_cons (pe_dget (hu_of hr) (pv 0) (pv 3) (fun _ _ => rfl)) pa_nil))) (pg_name (i := 4) sc_faces_in.nd rfl (Or.inl rfl)) (pss_one (ps_if (pt_cmp (pc_dnotin (hu_of hr) (pe_tup (pa_cons (pv 3) (pa_cons (pv 4) pa_nil))) (pv 2))) (pss_cons (ps_set (i := 5) sc_faces_in.nd rfl (Or.inl rfl) (pe_c (ok_face_from T) hr (by decide) (by rfl) (pa_cons (pv 0) (pa_cons (pe_tup (pa_cons (pv 3) (pa_cons (pv 4) pa_nil))) pa_nil))))
      (pss_cons (ps_expr (pe_bm PySem.F.plainAttrs_dict PySem.F.slot_dict_update PySem.F.type_dict_update (mt_updateTK (K := K) rfl hr.units) (pv 2) (pa_cons (pe_lc (own := [("step", 6)]) (by rfl) sc_faces_in.nd (pi_list (pv 5)) (blkOk_by (own := [("step", 6)]) (N := N_faces_in) (sc := defScope s_faces_in) (by decide +kernel)) (fun _ _ _ _ _ => (pg_name (i := 6) sc_faces_in.nd rfl (Or.inl rfl))) (fun _ _ _ _ _ => pts_nil) (fun _ _ _ _ _ => (pe_tup (pa_cons (pv 6) (pa_cons pe_bl pa_nil))))) pa_nil)))
      (pss_one (ps_expr (pe_bm PySem.F.plainAttrs_list PySem.F.slot_list_append PySem.F.type_list_append mt_append (pv 1) (pa_cons (pe_lc (own := [("step", 6)]) (by rfl) sc_faces_in.nd (pi_list (pv 5)) (blkOk_by (own := [("step", 6)]) (N := N_faces_in) (sc := defScope s_faces_in) (by decide +kernel)) (fun _ _ _ _ _ => (pg_name (i := 6) sc_faces_in.nd rfl (Or.inl rfl))) (fun _ _ _ _ _ => pts_nil) (fun _ _ _ _ _ => (pe_ix (ix_tupK (K := K)) (pv 6) pe_int (fun _ _ => rfl)))) pa_nil)))))) pss_nil)))))
      (pss_one (ps_ret (pe_callB (cr_srtRK (K := K) (List Str) hr.units) (by rfl) T.n_sorted (by decide +kernel) (pa_cons (pv 1) pa_nil))))))), ?_⟩
    have hvl : (vsf rows).length ≤ 60 := by rw [List.length_map]; exact hlen
    have hdl : (darts (vsf rows) (rdf rows)).length ≤ 3600 := Nat.le_trans (darts_len wf) (Nat.mul_le_mul hvl hvl)
    have hrl : ∀ v ∈ vsf rows, (rdf rows v).length ≤ 60 := fun v hv => Nat.le_trans (nodup_le (wf.rn v hv) fun u hu => (wf.ties v hv u hu).1) hvl
    have hdn : (darts (vsf rows) (rdf rows)).Nodup := darts_nodup wf.nd wf.rn
    have hcn : cs.flatten.Nodup := F.perm.nodup_iff.mpr hdn
    have hdM : d ∉ M := rds_out hd
    obtain ⟨kvs, hk1, hk2⟩ := rds_x (rd hd) hx
    -- the places without ties
    refine ⟨d, .dK kvs, hk1, trivial, fun od => ?_⟩
    have sL : Sm H (upd H d (.frz od (.dK kvs))) := lock_sm hk1 trivial id
    have hdL : RdsAt K (upd H d (.frz od (.dK kvs))) d rows := Mn.up sL (rd hd)
    refine ⟨_, rfl, d, od, rfl, .inl ⟨kvs, upd_same, fun l hl => ?_⟩⟩
    have ndl : l ≠ d := fun e => by rw [e, upd_same] at hl; cases hl
    have hl0 : H l = none := by rw [upd_ne ndl] at hl; exact hl
    refine lcK (M := M) (l := vsf rows) (rds_keys hk2) (fun G v x => ∃ a, v = .ref a ∧ LsN H G a x) (rV_up (R := LsN H)) (fun v => if rdf rows v = [] then some [v] else none) hl al.upd (Nat.lt_of_le_of_lt hvl (by decide)) upd_same (fun b H3 Ky Kn hb s4 al4 ky kn => ?_) (fun ys H3 s4 hD3 hp3 => ?_)
    · obtain ⟨a1, g1, e1⟩ := (up s4 hdL).get hb
      refine ⟨rfl, _, rfl, _, rfl, d, _, rfl, g1, Nat.zero_le _, fun e he => ?_⟩
      refine ⟨_, _, (up (.new he) e1).dp, nil_dp (SqL.of upd_same), _, rfl, ?_⟩
      by_cases hem : rdf rows b = []
      · refine iteYes hem ⟨_, rfl, by show 1 ≤ sizeLine; decide, fun t ht => ky _ [b] _ (if_pos hem) ((Same.new he).trans (.new ht)) ⟨t, rfl, ?_⟩⟩
        have ht0 : upd H d (.frz od (.dK kvs)) t = none := (s4.trans (.new he)).free ht
        have ntd : t ≠ d := fun e => by rw [e, upd_same] at ht0; cases ht0
        rw [upd_ne ntd] at ht0
        exact LsN.of (l := [b]) ht0 upd_same (al4.upd.fresh ht)
      · exact iteNo hem (kn _ (if_neg hem) (.new he))
    obtain ⟨as0, rfl, hp0⟩ := paired_refs hp3
    have hdN : d ∉ l :: M := fun q => by
      rcases List.mem_cons.mp q with q | q
      · exact ndl q.symm
      · exact hdM q
    obtain ⟨u1, u2, u3⟩ := unlock_all (N := l :: M) hk1 s4 hdN
    refine ⟨u1, ?_⟩
    have hL0 : upd H3 d (.dK kvs) l = some (.lst (as0.map V.ref)) := by rw [upd_ne ndl]; exact hD3
    have hP0 : Paired (LsN H (wo (upd H3 d (.dK kvs)) (l :: M))) as0 (lonesF rows) := Paired.mapP hp0 fun a0 _ q => by
      obtain ⟨z1, z2⟩ := nw_get q
      show nw H _ a0 = _
      rw [nw_of z1]
      exact u3.t _ _ trivial z2
    clear hp0 hp3 u1 u3 hD3 s4 hdL sL
    generalize upd H3 d (.dK kvs) = HA at *
    -- the ways
    intro sd hsd
    have hsd0 : H sd = none := u2.free hsd
    have nls : l ≠ sd := fun e => by rw [← e, hL0] at hsd; cases hsd
    have s1 : Same H (upd HA sd (.dT [])) := u2.trans (.new hsd)
    obtain ⟨kvs', hk1', hk2'⟩ := up s1 (rd hd)
    refine ⟨_, rfl, d, kvs', vsf rows, rfl, hk1', rds_keys hk2', by omega, fun a ha => ?_⟩
    have s2 := s1.trans (.new (o := .lst ((srt (vsf rows)).map V.str)) ha)
    have ha0 : H a = none := s1.free ha
    have nal : a ≠ l := fun e => by rw [e, upd_ne nls, hL0] at ha; cases ha
    have nas : a ≠ sd := fun e => by rw [e, upd_same] at ha; cases ha
    generalize hss : srt (vsf rows) = ss at *
    have sspw : ss.Pairwise (fun a b => leD a b = true) := by rw [← hss]; exact srt_pw _
    have ssm : ∀ x, x ∈ ss ↔ x ∈ vsf rows := fun x => by rw [← hss]; exact srt_mem
    let St : List (List (Str × Str)) → Hp → Prop := fun dn H' => Same H H' ∧ H' a = some (.lst (ss.map V.str)) ∧ (∃ as : List Addr, H' l = some (.lst (as.map V.ref)) ∧ Paired (LsN H (wo H' (l :: sd :: M))) as (lonesF rows ++ dn.map fun c => (flD c).map (·.1))) ∧ H' sd = some (.dT (tkT (dn.map flD).flatten)) ∧ ∃ td, cs.Perm (dn ++ td)
    refine ⟨a, rfl, ⟨_, SqL.of upd_same⟩, for_list (K := K) (a := a) (xs := ss.map V.str) (fun i σ H' => ∃ (dn : List (List (Str × Str))) (x y z u : Option V), σ = [some (.ref d), some (.ref l), some (.ref sd), x, y, z, u] ∧ St dn H' ∧
      ∀ s ∈ darts (vsf rows) (rdf rows), s.1 ∈ ss.take i → s ∈ dn.flatten) ?_ ?_ ?_ ?_⟩
    · refine ⟨[], _, _, _, _, rfl, ⟨s2, upd_same, ⟨as0, ?_, ?_⟩, ?_, cs, .refl _⟩, fun u hu h2 => by simp at h2⟩
      · rw [upd_ne nal.symm, upd_ne nls]; exact hL0
      · rw [List.map_nil, List.append_nil]
        exact upp (wo_ext1 ((Same.new hsd).trans (.new ha)) hsd |>.trans (wo_less (by intro x hx; simp at hx ⊢; rcases hx with q | q | q <;> simp [q]))) hP0
      · rw [upd_ne nas.symm, upd_same]; rfl
    · rintro i σ H' _ ⟨dn, x, y, z, u, _, ⟨_, hA, _⟩, _⟩
      exact SqL.of hA
    · rintro i y σ H' hi ⟨dn, x, y', z, u', rfl, ⟨sm, hA, ⟨as, hL, hP⟩, hS, td, hps⟩, hin⟩
      obtain ⟨p, hp, rfl⟩ := item_str hi
      have hpv : p ∈ vsf rows := (ssm p).mp (List.mem_of_getElem? hp)
      obtain ⟨ap, gp, ep⟩ := (up sm (rd hd)).get hpv
      refine ⟨_, rfl, _, rfl, d, _, rfl, gp, ap, rdf rows p, rfl, ep, fun b hb => ?_⟩
      have nbl : b ≠ l := fun e => by rw [e, hL] at hb; cases hb
      have nbs : b ≠ sd := fun e => by rw [e, hS] at hb; cases hb
      have nba : b ≠ a := fun e => by rw [e, hA] at hb; cases hb
      have hb0 : H b = none := sm.free hb
      have sb : Same H' (upd H' b (.lst ((srt (rdf rows p)).map V.str))) := .new hb
      generalize hos : srt (rdf rows p) = os at *
      have ospw : os.Pairwise (fun a b => leD a b = true) := by rw [← hos]; exact srt_pw _
      have osm : ∀ x, x ∈ os ↔ x ∈ rdf rows p := fun x => by rw [← hos]; exact srt_mem
      refine ⟨b, rfl, ⟨_, SqL.of upd_same⟩, for_list (K := K) (a := b) (xs := os.map V.str) (fun j σ H' => ∃ (dn : List (List (Str × Str))) (y z u : Option V), σ = [some (.ref d), some (.ref l), some (.ref sd), some (.str p), y, z, u] ∧ St dn H' ∧ H' b = some (.lst (os.map V.str)) ∧
        (∀ s ∈ darts (vsf rows) (rdf rows), s.1 ∈ ss.take i → s ∈ dn.flatten) ∧ ∀ o ∈ os.take j, (p, o) ∈ dn.flatten) ?_ ?_ ?_ ?_⟩
      · refine ⟨dn, _, _, _, rfl, ⟨sm.trans sb, sb _ _ hA, ⟨as, sb _ _ hL, ups sb hP⟩, sb _ _ hS, td, hps⟩, upd_same, hin, fun o ho => by simp at ho⟩
      · rintro j σ H2 _ ⟨dn, y, z, u, _, _, hB, _⟩
        exact SqL.of hB
      · rintro j yy σ H2 hj ⟨dn, y2, z2, u2', rfl, ⟨sm2, hA2, ⟨as2, hL2, hP2⟩, hS2, td2, hps2⟩, hB2, hin2, hos2⟩
        obtain ⟨q, hq, rfl⟩ := item_str hj
        have hqr : q ∈ rdf rows p := (osm q).mp (List.mem_of_getElem? hq)
        have hdart : (p, q) ∈ darts (vsf rows) (rdf rows) := mem_darts.mpr ⟨hpv, hqr⟩
        have hfm : ∀ s, s ∈ (dn.map flD).flatten ↔ s ∈ dn.flatten := fun s => (flat_flD_perm dn).mem_iff
        have hpf : (dn.flatten ++ td2.flatten).Perm (darts (vsf rows) (rdf rows)) := by
          rw [← List.flatten_append]
          exact (hps2.flatten).symm.trans F.perm
        have hnf : (dn.flatten ++ td2.flatten).Nodup := hpf.nodup_iff.mpr hdn
        have al2 : Al (l :: sd :: M) H2 := ((al.same sm2).cons hS2).cons hL2
        refine ⟨_, rfl, _, rfl, by show 2 ≤ sizeLine; decide, fun t ht => ?_⟩
        have st : Same H2 (upd H2 t (.tup [.str p, .str q])) := .new ht
        refine ⟨_, rfl, sd, _, rfl, dget_tkT (K := K) (s := (p, q)) (st _ _ hS2) upd_same, _, rfl, ?_⟩
        by_cases hm : (p, q) ∈ (dn.map flD).flatten
        · rw [if_pos hm]
          refine iteF ⟨dn, _, _, _, rfl, ⟨sm2.trans st, st _ _ hA2, ⟨as2, st _ _ hL2, ups st hP2⟩, st _ _ hS2, td2, hps2⟩, st _ _ hB2, hin2, fun o ho => ?_⟩
          rw [take_snoc hq] at ho
          rcases List.mem_append.mp ho with w | w
          · exact hos2 o w
          · rw [List.mem_singleton.mp w]; exact (hfm _).mp hm
        · rw [if_neg hm]
          refine iteT ?_
          have hund : (p, q) ∉ dn.flatten := fun w => hm ((hfm _).mpr w)
          obtain ⟨c, hct, huc⟩ := List.mem_flatten.mp ((List.mem_append.mp (hpf.mem_iff.mpr hdart)).resolve_left hund)
          have hcp : c ∈ cs := hps2.mem_iff.mpr (List.mem_append_right _ hct)
          obtain ⟨td', hp2⟩ := perm_head hct
          obtain ⟨X, Y, ec, hX⟩ := mem_split huc
          have hcnd : c.Nodup := by
            obtain ⟨rest, hpr⟩ := perm_head hcp
            have := (hpr.flatten.nodup_iff).mp hcn
            rw [List.flatten_cons] at this
            exact (List.nodup_append.mp this).1
          have hcin : ∀ s ∈ c, s ∈ darts (vsf rows) (rdf rows) := fun s hs => fd_in F hcp hs
          have hleast : ∀ s ∈ c, leD (p, q) s = true := fun s hs => by
            cases z : DatumOrd.lt s (p, q) with
            | false => unfold leD; rw [z]; rfl
            | true =>
              exfalso
              have hsd' := hcin s hs
              have : s ∈ dn.flatten := by
                rcases (lt_pair s (p, q)).mp z with ⟨e1, e2⟩ | ⟨e1, e2⟩
                · have h3 := hos2 s.2 (srt_before ospw hq ((osm s.2).mpr (by have := (mem_darts.mp hsd').2; rw [e1] at this; exact this)) e2)
                  have : s = (p, s.2) := Prod.ext e1 rfl
                  rw [this]; exact h3
                · exact hin2 s hsd' (srt_before sspw hp ((ssm s.1).mpr (mem_darts.mp hsd').1) e2)
              exact (List.nodup_append.mp hnf).2.2 s this s (List.mem_flatten.mpr ⟨c, hct, hs⟩) rfl
          have hrot : flD c = (p, q) :: Y ++ X := flD_rot ec hX hleast
          have hcyc : Path (fs (rdf rows)) (p, q) (Y ++ X) (p, q) := cyc_rot (A := X) (B := (p, q) :: Y) (by rw [← ec]; exact F.cyc c hcp)
          have hrn : ((p, q) :: (Y ++ X)).Nodup := by
            have := (flD_perm c).nodup_iff.mpr hcnd
            rw [hrot] at this
            simpa using this
          have hmemr : ∀ s ∈ (p, q) :: (Y ++ X), s ∈ darts (vsf rows) (rdf rows) := fun s hs => hcin s (flD_mem.mp (by rw [hrot]; simpa using hs))
          have hclen : c.length ≤ 3600 := Nat.le_trans (nodup_le hcnd hcin) hdl
          have hcl2 : (Y ++ X).length ≤ 9000 := by
            have := congrArg List.length ec
            simp only [List.length_append, List.length_cons] at this ⊢
            omega
          -- face = face_from(rounds, (place, other))
          have hdA : RdsAt K (wo (upd H2 t (.tup [.str p, .str q])) (l :: sd :: M)) d rows := up (wo_ext2 (sm2.trans st) hl0 hsd0) hd
          refine ⟨_, rfl, _, rfl, _, rfl, by show 2 ≤ sizeLine; decide, fun t2 ht2 => ?_⟩
          have st2 : Same (upd H2 t (.tup [.str p, .str q])) (upd (upd H2 t (.tup [.str p, .str q])) t2 (.tup [.str p, .str q])) := .new ht2
          refine ⟨l :: sd :: M, d, t2, rows, p, q, Y ++ X, rfl, (al2.same st).same st2, upw st2 hdA, T2.of upd_same ((al2.same st).fresh ht2), wf, hnm, hmemr, hcyc, hrn, hcl2, fun fl H4 s4 hF => ?_⟩
          have sm4 : Same H2 H4 := (st.trans st2).trans s4
          have al4 := al2.same sm4
          obtain ⟨ts, hF1, hF2⟩ := id hF
          have hflen : ((p, q) :: (Y ++ X)).length < sizeLine := Nat.lt_of_le_of_lt (Nat.succ_le_succ hcl2) (by decide)
          have elen : (flD c).length = c.length := (flD_perm c).length_eq
          -- seen.update
          refine ⟨_, rfl, .inr (.inr (.inl ⟨rfl, .inr ⟨_, sm4 _ _ hS2⟩⟩)), _, rfl, fl, rfl, ⟨_, wo_same.sm.seq hF1⟩, fun D hD => ?_⟩
          refine lcL (K := K) (M := l :: sd :: M) (paired_refs' hF2) (fun G v x => ∃ a, v = .ref a ∧ ∃ t, T2 K G t x ∧ SqT K G a [.ref t, .bl true]) (fun G G' v x s ⟨a, e, t, h1, h2⟩ => ⟨a, e, t, up s h1, s.sm.seqT h2⟩) some hD al4 hflen (wo_same.sm.seq hF1) (fun v b H5 Ky Kn hb ⟨tb, e, hT⟩ s5 al5 ky kn => ?_) (fun ys H5 s5 hD5 hp5 => ?_)
          · subst e
            refine ⟨rfl, lcy ⟨_, rfl, by show 2 ≤ sizeLine; decide, fun t6 ht6 => ky _ _ _ rfl (.new ht6) ⟨t6, rfl, tb, ?_, .inl (.inl ?_)⟩⟩⟩
            · have h7 : T2 K H4 tb b := rd hT
              have : tb ∉ D :: l :: sd :: M := fun w => by
                rcases List.mem_cons.mp w with w | w
                · rw [w] at h7; rw [show H4 D = _ from h7] at hD; cases hD
                · have := (wo_get (show wo H4 (l :: sd :: M) tb = _ from hT)).2
                  exact this w
              show wo _ _ tb = _
              rw [wo_out this]
              exact (s5.trans (.new ht6)) _ _ h7
            · rw [wo_out (al5.fresh ht6), upd_same]
          rw [List.filterMap_some] at hp5
          obtain ⟨us, rfl, hus⟩ := paired_refs hp5
          have hndc : ((dn.map flD).flatten ++ flD c).Nodup := by
            refine List.nodup_append.mpr ⟨(flat_flD_perm dn).nodup_iff.mpr (List.nodup_append.mp hnf).1, (flD_perm c).nodup_iff.mpr hcnd, fun v hv v' hv' e => ?_⟩
            subst e
            exact (List.nodup_append.mp hnf).2.2 v ((hfm v).mp hv) v (List.mem_flatten.mpr ⟨c, hct, flD_mem.mp hv'⟩) rfl
          have hS5 := (sm4.trans s5) _ _ hS2
          have hL5 := (sm4.trans s5) _ _ hL2
          have hlf : (dn.map flD).flatten.length ≤ 3600 := by
            rw [(flat_flD_perm dn).length_eq]
            have := hpf.length_eq
            rw [List.length_append] at this
            omega
          have hpt : Paired (fun p kv => ∃ b, H5 b = some (.tup (kv.1.map kV)) ∧ SqT K H5 p [.ref b, kv.2]) us (tkT (flD c)) := by
            rw [hrot]
            exact pairs_tkT (K := K) wo_same hus
          refine ⟨sd, D, _, tkT (flD c), us, rfl, rfl, hS5, SqL.of hD5, hpt, ?_, ?_⟩
          · rw [tkT_length, tkT_length, elen]
            exact Nat.le_trans (Nat.add_le_add hlf hclen) (by decide)
          rw [mergeT_tkT _ _ hndc]
          have hF6 : LR K (T2 K) (wo (upd H5 sd (.dT (tkT ((dn.map flD).flatten ++ flD c)))) (l :: sd :: M)) fl ((p, q) :: (Y ++ X)) := by
            rw [wo_mut (by simp)]
            exact upw s5 hF
          have hL6 : upd H5 sd (.dT (tkT ((dn.map flD).flatten ++ flD c))) l = some (.lst (as2.map V.ref)) := by rw [upd_ne nls]; exact hL5
          have hS6 : upd H5 sd (.dT (tkT ((dn.map flD).flatten ++ flD c))) sd = some (.dT (tkT ((dn.map flD).flatten ++ flD c))) := upd_same
          have hP6 : Paired (LsN H (wo (upd H5 sd (.dT (tkT ((dn.map flD).flatten ++ flD c)))) (l :: sd :: M))) as2 (lonesF rows ++ dn.map fun c => (flD c).map (·.1)) := by
            rw [wo_mut (by simp)]
            exact ups (sm4.trans s5) hP2
          have sm6 : Same H (upd H5 sd (.dT (tkT ((dn.map flD).flatten ++ flD c)))) := ((sm2.trans sm4).trans s5).mut hsd0
          have hA6 : upd H5 sd (.dT (tkT ((dn.map flD).flatten ++ flD c))) a = some (.lst (ss.map V.str)) := by rw [upd_ne nas]; exact (sm4.trans s5) _ _ hA2
          have hB6 : upd H5 sd (.dT (tkT ((dn.map flD).flatten ++ flD c))) b = some (.lst (os.map V.str)) := by rw [upd_ne nbs]; exact (sm4.trans s5) _ _ hB2
          have al6 : Al (l :: sd :: M) (upd H5 sd (.dT (tkT ((dn.map flD).flatten ++ flD c)))) := (al4.same s5).upd
          generalize upd H5 sd (.dT (tkT ((dn.map flD).flatten ++ flD c))) = H6 at *
          -- found.append
          obtain ⟨ts6, hF61, hF62⟩ := id hF6
          refine ⟨_, rfl, .inl ⟨rfl, _, SqL.of hL6⟩, _, rfl, fl, rfl, ⟨_, wo_same.sm.seq hF61⟩, fun D2 hD2 => ?_⟩
          refine lcL (K := K) (M := l :: sd :: M) (paired_refs' hF62) (fun G v (x : Str) => v = .str x) (fun G G' v x s e => e) (fun s => some s.1) hD2 al6 hflen (wo_same.sm.seq hF61) (fun v b H7 Ky Kn hb ⟨tb, e, hT⟩ s7 al7 ky kn => ?_) (fun ys H7 s7 hD7 hp7 => ?_)
          · subst e
            refine ⟨rfl, lcy ⟨_, rfl, tb, _, 0, _, rfl, rfl, SqT.of (s7 _ _ (rd hT)), rfl, ky _ _ _ rfl (.refl _) rfl⟩⟩
          rw [filterMap_some] at hp7
          have ey := paired_vals hp7
          subst ey
          have hL7 := s7 _ _ hL6
          have nD2l : D2 ≠ l := fun e => by rw [e, hL6] at hD2; cases hD2
          refine ⟨l, _, _, rfl, rfl, hL7, ?_, ?_⟩
          · rw [List.length_map, Paired.length hP6, List.length_append, List.length_map]
            have h1 : (lonesF rows).length ≤ 60 := Nat.le_trans (List.length_filterMap_le _ _) hvl
            have h2 : dn.length ≤ dn.flatten.length := flat_len_le fun c hc => cyc_ne (F.cyc c (hps2.mem_iff.mpr (List.mem_append_left _ hc)))
            have := hpf.length_eq
            rw [List.length_append] at this
            exact Nat.lt_of_le_of_lt (show _ ≤ 60 + 3600 by omega) (by decide)
          · have e6 : ((p, q) :: (Y ++ X)).map (·.1) = (flD c).map (·.1) := by rw [hrot]; rfl
            rw [e6] at hD7
            refine ⟨dn ++ [c], _, _, _, rfl, ⟨(sm6.trans s7).mut hl0, ?_, ⟨as2 ++ [D2], ?_, ?_⟩, ?_, td', ?_⟩, ?_, ?_, ?_⟩
            · rw [upd_ne nal]; exact s7 _ _ hA6
            · rw [upd_same]; simp
            · rw [wo_mut (by simp), List.map_append, ← List.append_assoc]
              exact paired_snoc (ups s7 hP6) (LsN.of (sm6.free hD2) hD7 (al6.fresh hD2))
            · rw [upd_ne nls.symm, List.map_append, List.flatten_append]
              simpa using s7 _ _ hS6
            · refine hps2.trans ?_
              rw [List.append_assoc]
              exact List.Perm.append_left _ hp2
            · rw [upd_ne nbl]; exact s7 _ _ hB6
            · intro s hs h1
              rw [List.flatten_append]
              exact List.mem_append_left _ (hin2 s hs h1)
            · intro o ho
              rw [take_snoc hq] at ho
              rw [List.flatten_append]
              rcases List.mem_append.mp ho with w | w
              · exact List.mem_append_left _ (hos2 o w)
              · rw [List.mem_singleton.mp w]; exact List.mem_append_right _ (by simpa using huc)
      · rintro σ H2 ⟨dn, y2, z2, u2', rfl, hSt, hB2, hin2, hos2⟩
        refine ⟨dn, _, _, _, _, rfl, hSt, fun s hs h1 => ?_⟩
        rw [take_snoc hp] at h1
        rcases List.mem_append.mp h1 with w | w
        · exact hin2 s hs w
        · have e := List.mem_singleton.mp w
          have h2 := hos2 s.2 (by rw [List.length_map, List.take_length]; exact (osm s.2).mpr (by rw [← e]; exact (mem_darts.mp hs).2))
          have : s = (p, s.2) := Prod.ext e rfl
          rw [this]; exact h2
    · rintro σ H' ⟨dn, x, y, z, u, rfl, ⟨sm, hA, ⟨as, hL, hP⟩, hS, td, hps⟩, hin⟩
      have etd : td = [] := by
        cases td with
        | nil => rfl
        | cons c r =>
          exfalso
          have hcp : c ∈ cs := hps.mem_iff.mpr (by simp)
          obtain ⟨s, r', e⟩ := List.exists_cons_of_ne_nil (cyc_ne (F.cyc c hcp))
          have hsc : s ∈ c := by rw [e]; simp
          have hsd' := fd_in F hcp hsc
          have h1 : s ∈ dn.flatten := hin s hsd' (by rw [List.length_map, List.take_length]; exact (ssm s.1).mpr (mem_darts.mp hsd').1)
          have hnf : (dn ++ c :: r).flatten.Nodup := (hps.flatten.nodup_iff).mp hcn
          rw [List.flatten_append] at hnf
          exact (List.nodup_append.mp hnf).2.2 s h1 s (by simp [hsc]) rfl
      subst etd
      rw [List.append_nil] at hps
      refine ⟨_, rfl, l, as, _, rfl, SqL.of hL, Paired.mapP hP fun a x h => LS.dp (K := K) (rd h).ls, fun x hx => .inr fun d hd => ?_, fun cs' p hcs he hp => ?_⟩
      · have : d = tD x := by simpa using hd
        subst this
        exact ⟨fun z => (nomatch z), fun _ z => (nomatch z)⟩
      · refine k p _ (sm.trans (.new hp)) ?_
        obtain ⟨z1, z2, z3⟩ := zip_fst hP
        have e : facesF rows cs = cs'.map (·.2) := by
          rw [he]
          exact srt_congr (List.Perm.append_left _ (hps.map _))
        rw [e]
        refine ⟨cs'.map (·.1), ?_, ?_⟩
        · rw [nw_of (sm.free hp), upd_same, List.map_map]; rfl
        · have hall : ∀ c ∈ cs', LsN H (wo H' (l :: sd :: M)) c.1 c.2 := fun c hc => z3 c (hcs.mem_iff.mp hc)
          have key : ∀ l2 : List (Addr × List Str), (∀ c ∈ l2, LsN H (wo H' (l :: sd :: M)) c.1 c.2) → Paired (LsN H (upd H' p (.lst (cs'.map fun c => V.ref c.1)))) (l2.map (·.1)) (l2.map (·.2)) := by
            intro l2
            induction l2 with
            | nil => intro _; exact .nil
            | cons c r ih => exact fun h => .cons (up (wo_same.trans (Same.new hp)) (h c (by simp))) (ih fun x hx => h x (List.mem_cons_of_mem _ hx))
          exact key cs' hall
end
end Five
end
section
namespace Five
open PySem PySem.Spec PyProof.Rows L2
open PySem.W (Datum DatumOrd)
section
variable {P : Program} {w : World} {K : PySem.W.Frag} {mg : Str → Option Value} {base : Heap} {C : Addr} {cx : Nat → Addr}
def spIsName (K : PySem.W.Frag) : Sp := fun vs H Q _ => ∃ x : Str, vs = [.str x] ∧ x.length ≤ 4000 ∧ ∀ H', Same H H' → Q (.bl (isNm x)) H'
theorem ok_is_name (T : Txt K mg C cx) : Cal P w K mg base 1 "is_name" (spIsName K) := by
  refine cal_of T.d_is_name sc_is_name (fun vs H Q E h => ?_) (fun f cdv A outer s H vs Q E hr h => ?_)
  · obtain ⟨x, rfl, _⟩ := h
    rfl
  · obtain ⟨x, rfl, hx, k⟩ := h
    refine ⟨_, (pss_cons (ps_if (PW.pt (pw_or (pt_not (pt_val (pe_callB (call_isiK' (K := K)) (by rfl) T.n_isinstance (by decide +kernel) (pa_cons (pv 0) (pa_cons (pe_bltn (v := .ty "str") (by rfl) T.n_str (by decide +kernel) rfl) pa_nil))))) (pw_or1 (pt_not (pt_chain op_le op_le pe_int (pe_callB call_len_str (by rfl) T.n_len (by decide +kernel) (pa_cons (pv 0) pa_nil)) (pe_gc (by rfl) T.g_MOST_LETTERS)))))) (pss_one (ps_ret pe_bl)) pss_nil)
      (pss_one (ps_ret (pe_callB (cr_allK (K := K) rfl) (by rfl) T.n_all (by decide +kernel) (pa_cons (pe_lc (own := [("sign", 1)]) (by rfl) sc_is_name.nd (pi_str (pv 0)) (blkOk_by (own := [("sign", 1)]) (N := N_is_name) (sc := defScope s_is_name) (by decide +kernel)) (fun _ _ _ _ _ => (pg_name (i := 1) sc_is_name.nd rfl (Or.inl rfl))) (fun _ _ _ _ _ => pts_nil) (fun _ _ _ _ _ => (pe_cmpR op_in_sign (pv 1) (pe_gc (by rfl) T.g_LETTERS) (by rfl)))) pa_nil))))), ?_⟩
    have hz : x.length ≤ sizeLine := Nat.le_trans hx (by decide)
    refine ⟨_, rfl, .str x, .ty "str", _, _, true, rfl, .ty "str", .base (.str x), kit_ty (by decide +kernel), _, rfl, iteF ⟨_, rfl, x, rfl, hz, _, _, rfl, rfl, _, rfl, ?_⟩⟩
    by_cases h1 : (1 : Int) ≤ (x.length : Int)
    · rw [decide_eq_true h1]
      refine iteT ⟨_, _, rfl, rfl, _, rfl, ?_⟩
      by_cases h2 : (x.length : Int) ≤ 8
      · rw [decide_eq_true h2]
        refine iteF ⟨_, rfl, x, rfl, fun D hD => ?_⟩
        refine lcT (M := []) (fun G v (b : Bool) => v = .bl b) (fun _ _ _ _ _ e => e) (fun c => some (decide (c ∈ abc.cps.toList))) hD al_nil (by rw [str_len]; exact Nat.lt_of_le_of_lt hx (by decide)) (fun c H2 Ky Kn hc s1 al ky kn => ?_) (fun ys H2 s1 hD2 hp => ?_)
        · exact ⟨rfl, lcy ⟨_, rfl, c, _, rfl, rfl, ky _ _ _ rfl (.refl _) rfl⟩⟩
        · rw [filterMap_some] at hp
          have e := paired_vals hp
          subst e
          refine ⟨D, _, rfl, SqL.of hD2, ?_⟩
          have e : isNm x = (x.cps.toList.map fun c => decide (c ∈ abc.cps.toList)).all id := by
            unfold isNm
            rw [decide_eq_true (by omega), decide_eq_true (by omega)]
            rfl
          rw [← e]
          exact k _ s1
      · rw [decide_eq_false h2]
        refine iteT ?_
        have e : isNm x = false := by
          unfold isNm
          rw [decide_eq_false (p := x.length ≤ 8) (by omega)]
          simp
        have := k _ (.refl _)
        rw [e] at this
        exact this
    · rw [decide_eq_false h1]
      refine iteF ⟨_, rfl, iteT ?_⟩
      have e : isNm x = false := by
        unfold isNm
        rw [decide_eq_false (p := 1 ≤ x.length) (by omega)]
        simp
      have := k _ (.refl _)
      rw [e] at this
      exact this
end
end Five
end
section
namespace Five
open PySem PySem.Spec PyProof.Rows L2
open PySem.W (Datum DatumOrd)
section
variable {P : Program} {w : World} {K : PySem.W.Frag} {mg : Str → Option Value} {base : Heap} {C : Addr} {cx : Nat → Addr}
def spWantNames (K : PySem.W.Frag) : Sp := fun vs H Q _ => ∃ (M : List Addr) (a : Addr) (rows : List Row), vs = [.ref a] ∧ Al M H ∧ LR K (RowT K) (wo H M) a rows ∧ (∀ r ∈ rows, Nm r.1 ∧ (∀ x ∈ r.2, Nm x) ∧ r.2.length ≤ 3000) ∧ ∀ H', Same H H' → Q .non H'
theorem ok_want_names (T : Txt K mg C cx) : Cal P w K mg base 2 "want_names" (spWantNames K) := by
  refine cal_of T.d_want_names sc_want_names (fun vs H Q E h => ?_) (fun f cdv A outer s H vs Q E hr h => ?_)
  · obtain ⟨M, a, rows, rfl, _⟩ := h
    rfl
  · obtain ⟨M, a, rows, rfl, al, ⟨as, ha, hp⟩, hnm, k⟩ := h
    refine ⟨_, (pss_one (ps_for PassesOwn.never (by rfl) (pi_list (pv 0)) (pg_tupK (K := K) 2 (by rfl) (pgs_cons (pg_name (i := 1) sc_want_names.nd rfl (Or.inl rfl)) (pgs_cons (pg_name (i := 2) sc_want_names.nd rfl (Or.inl rfl)) pgs_nil))) (pss_one (ps_if (pt_not (pt_val (pe_callB (cr_allK (K := K) rfl) (by rfl) T.n_all (by decide +kernel) (pa_cons (pe_lc (own := [("name", 3)]) (by rfl) sc_want_names.nd (pi_list (pe_op op_cat (pe_lst (pa_cons (pv 1) pa_nil)) (pv 2))) (blkOk_by (own := [("name", 3)]) (N := N_want_names) (sc := defScope s_want_names) (by decide +kernel)) (fun _ _ _ _ _ => (pg_name (i := 3) sc_want_names.nd rfl (Or.inl rfl))) (fun _ _ _ _ _ => pts_nil) (fun _ _ _ _ _ => (pe_c (ok_is_name T) hr (by decide) (by rfl) (pa_cons (pv 3) pa_nil)))) pa_nil)))) (pss_one ps_never) pss_nil)))), ?_⟩
    refine ⟨_, rfl, a, rfl, ⟨_, wo_same.sm.seq ha⟩, for_list (K := K) (a := a) (xs := as.map V.ref) (fun i σ H' => ∃ (x y z : Option V), σ = [some (.ref a), x, y, z] ∧ Same H H') ⟨_, _, _, rfl, .refl _⟩ (fun i σ H' _ ⟨x, y, z, _, sm⟩ => sm.seq (wo_same.sm.seq ha)) ?_ (fun σ H' ⟨x, y, z, _, sm⟩ => k H' sm)⟩
    rintro i v σ H' hi ⟨x, y, z, rfl, sm⟩
    obtain ⟨t, ht, rfl⟩ := item_ref hi
    obtain ⟨r, hr1, b, h1, h2⟩ := paired_get hp i t ht
    have hrm : r ∈ rows := List.mem_of_getElem? hr1
    obtain ⟨n1, n2, n3⟩ := hnm r hrm
    have h1' : H' t = some (.tup [.str r.1, .ref b]) := sm _ _ (wo_same _ _ h1)
    have h2' : H' b = some (.lst (r.2.map V.str)) := sm _ _ (wo_same _ _ h2)
    refine ⟨t, _, rfl, SqT.of h1', rfl, _, _, rfl, _, _, rfl, rfl, ?_⟩
    refine ⟨_, rfl, by show 1 ≤ sizeLine; decide, fun p1 hp1 => ⟨_, rfl, p1, b, _, _, rfl, rfl, upd_same, Same.new hp1 _ _ h2', ?_, fun p2 hp2 => ⟨p2, rfl, ⟨_, SqL.of upd_same⟩, fun D hD => ?_⟩⟩⟩
    · rw [List.length_map]
      exact Nat.le_trans (show 1 + r.2.length ≤ 1 + 3000 by omega) (by decide)
    have s2 : Same H' (upd (upd H' p1 (.lst [.str r.1])) p2 (.lst ([.str r.1] ++ r.2.map V.str))) := (Same.new hp1).trans (.new hp2)
    have e : ([V.str r.1] ++ r.2.map V.str) = (r.1 :: r.2).map V.str := rfl
    rw [e] at *
    refine lcL (K := K) (M := []) (paired_map V.str (r.1 :: r.2)) (fun G v (b : Bool) => v = .bl b) (fun _ _ _ _ _ e => e) (fun x => some (isNm x)) hD al_nil ?_ (SqL.of upd_same) (fun v b H2 Ky Kn hb e s3 al2 ky kn => ?_) (fun ys H2 s3 hD2 hp => ?_)
    · exact Nat.lt_of_le_of_lt (show (r.1 :: r.2).length ≤ 3001 by simp; omega) (by decide)
    · subst e
      have hb' : Nm b := by
        rcases List.mem_cons.mp hb with q | q
        · rw [q]; exact n1
        · exact n2 b q
      exact ⟨rfl, lcy ⟨_, rfl, b, rfl, Nat.le_trans hb'.2.1 (by decide), fun H3 s4 => ky _ _ _ rfl s4 rfl⟩⟩
    · rw [filterMap_some] at hp
      have e := paired_vals hp
      subst e
      refine ⟨D, _, rfl, SqL.of hD2, _, rfl, ?_⟩
      have e : ((r.1 :: r.2).map isNm).all id = true := by
        rw [List.all_eq_true]
        intro b hb
        obtain ⟨x, hx, rfl⟩ := List.mem_map.mp hb
        refine (isNm_iff x).mpr ?_
        rcases List.mem_cons.mp hx with q | q
        · rw [q]; exact n1
        · exact n2 x q
      rw [e]
      exact iteF ⟨_, _, _, rfl, sm.trans (s2.trans s3)⟩

def spWantUnlike (K : PySem.W.Frag) : Sp := fun vs H Q _ => ∃ (M : List Addr) (a : Addr) (rows : List Row), vs = [.ref a] ∧ Al M H ∧ LR K (RowT K) (wo H M) a rows ∧ (vsf rows).Nodup ∧ (∀ r ∈ rows, r.2.Nodup ∧ r.2.length ≤ 3000) ∧ rows.length ≤ 3000 ∧ ∀ H', Same H H' → Q .non H'
theorem ok_want_unlike (T : Txt K mg C cx) : Cal P w K mg base 1 "want_unlike" (spWantUnlike K) := by
  refine cal_of T.d_want_unlike sc_want_unlike (fun vs H Q E h => ?_) (fun f cdv A outer s H vs Q E hr h => ?_)
  · obtain ⟨M, a, rows, rfl, _⟩ := h
    rfl
  · obtain ⟨M, a, rows, rfl, al, ⟨as, ha, hp⟩, hnd, hrn, hlen, k⟩ := h
    refine ⟨_, (pss_cons (ps_if (pt_cmpR op_lt (pe_lenSetS (by rfl) T.n_len (by rfl) T.n_set (pe_lc (own := [("place", 1), ("around", 2)]) (by rfl) sc_want_unlike.nd (pi_list (pv 0)) (blkOk_by (own := [("place", 1), ("around", 2)]) (N := N_want_unlike) (sc := defScope s_want_unlike) (by decide +kernel)) (fun _ _ _ _ _ => (pg_tupK (K := K) 2 (by rfl) (pgs_cons (pg_name (i := 1) sc_want_unlike.nd rfl (Or.inl rfl)) (pgs_cons (pg_name (i := 2) sc_want_unlike.nd rfl (Or.inl rfl)) pgs_nil)))) (fun _ _ _ _ _ => pts_nil) (fun _ _ _ _ _ => (pv 1)))) (pe_callB (call_lenK (K := K)) (by rfl) T.n_len (by decide +kernel) (pa_cons (pv 0) pa_nil)) (nomark _)) (pss_one ps_never) pss_nil)
      (pss_one (ps_for PassesOwn.never (by rfl) (pi_list (pv 0)) (pg_tupK (K := K) 2 (by rfl) (pgs_cons (pg_name (i := 1) sc_want_unlike.nd rfl (Or.inl rfl)) (pgs_cons (pg_name (i := 2) sc_want_unlike.nd rfl (Or.inl rfl)) pgs_nil))) (pss_one (ps_if (pt_cmpR op_lt (pe_lenSetS (by rfl) T.n_len (by rfl) T.n_set (pv 2)) (pe_callB (call_lenK (K := K)) (by rfl) T.n_len (by decide +kernel) (pa_cons (pv 2) pa_nil)) (nomark _)) (pss_one ps_never) pss_nil))))), ?_⟩
    have ha' := wo_same.sm.seq ha
    have hp' : Paired (RowT K H) as rows := Paired.mapP hp fun _ _ q => rd q
    refine ⟨_, rfl, a, rfl, ⟨_, ha'⟩, fun D hD => ?_⟩
    refine lcL (K := K) (M := []) (paired_refs' hp') (fun G v (x : Str) => v = .str x) (fun _ _ _ _ _ e => e) (fun r => some r.1) hD al_nil (Nat.lt_of_le_of_lt hlen (by decide)) ha' (fun v r H2 Ky Kn hb ⟨t, e, b, h1, h2⟩ s3 al2 ky kn => ?_) (fun ys H2 s3 hD2 hp2 => ?_)
    · subst e
      exact ⟨t, _, rfl, SqT.of (s3 _ _ h1), rfl, _, _, rfl, _, _, rfl, rfl, rfl, lcy ⟨_, rfl, ky _ _ _ rfl (.refl _) rfl⟩⟩
    · rw [filterMap_some] at hp2
      have e := paired_vals hp2
      subst e
      refine ⟨D, rows.map (·.1), rfl, SqL.of hD2, by rw [List.length_map]; omega, _, rfl, a, _, rfl, .inl (s3.seq ha'), _, _, rfl, rfl, _, rfl, ?_⟩
      have e : decide (((dd (vsf rows)).length : Int) < ((as.map V.ref).length : Int)) = false := by
        rw [dd_nodup hnd, List.length_map, List.length_map, Paired.length hp]
        exact decide_eq_false (by omega)
      rw [e]
      refine iteF ?_
      refine ⟨_, rfl, a, rfl, ⟨_, s3.seq ha'⟩, for_list (K := K) (a := a) (xs := as.map V.ref) (fun i σ H' => ∃ (x y : Option V), σ = [some (.ref a), x, y] ∧ Same H H') ⟨_, _, rfl, s3⟩ (fun i σ H' _ ⟨x, y, _, sm⟩ => sm.seq ha') ?_ (fun σ H' ⟨x, y, _, sm⟩ => k H' sm)⟩
      rintro i v σ H' hi ⟨x, y, rfl, sm⟩
      obtain ⟨t, ht, rfl⟩ := item_ref hi
      obtain ⟨r, hr1, b, h1, h2⟩ := paired_get hp' i t ht
      obtain ⟨n1, n2⟩ := hrn r (List.mem_of_getElem? hr1)
      refine ⟨t, _, rfl, SqT.of (sm _ _ h1), rfl, _, _, rfl, _, _, rfl, rfl, ?_⟩
      have h2' : SqL K H' b (r.2.map V.str) := SqL.of (sm _ _ h2)
      refine ⟨_, rfl, b, r.2, rfl, h2', by omega, _, rfl, b, _, rfl, .inl h2', _, _, rfl, rfl, _, rfl, ?_⟩
      have e : decide (((dd r.2).length : Int) < ((r.2.map V.str).length : Int)) = false := by
        rw [dd_nodup n1, List.length_map]
        exact decide_eq_false (by omega)
      rw [e]
      exact iteF ⟨_, _, rfl, sm⟩

def spWantBack (K : PySem.W.Frag) : Sp := fun vs H Q _ => ∃ (M : List Addr) (a d : Addr) (rows rows' : List Row), vs = [.ref a, .ref d] ∧ Al M H ∧ LR K (RowT K) (wo H M) a rows ∧ RdsAt K (wo H M) d rows' ∧
  (∀ r ∈ rows, ∀ x ∈ r.2, x ≠ r.1 ∧ x ∈ vsf rows' ∧ r.1 ∈ rdf rows' x) ∧ ∀ H', Same H H' → Q .non H'
theorem ok_want_back (T : Txt K mg C cx) : Cal P w K mg base 1 "want_back" (spWantBack K) := by
  refine cal_of T.d_want_back sc_want_back (fun vs H Q E h => ?_) (fun f cdv A outer s H vs Q E hr h => ?_)
  · obtain ⟨M, a, d, rows, rows', rfl, _⟩ := h
    rfl
  · obtain ⟨M, a, d, rows, rows', rfl, al, ⟨as, ha, hp⟩, hd, hback, k⟩ := h
    refine ⟨_, (pss_one (ps_for PassesOwn.never (by rfl) (pi_list (pv 0)) (pg_tupK (K := K) 2 (by rfl) (pgs_cons (pg_name (i := 2) sc_want_back.nd rfl (Or.inl rfl)) (pgs_cons (pg_name (i := 3) sc_want_back.nd rfl (Or.inl rfl)) pgs_nil))) (pss_one (ps_for PassesOwn.never (by rfl) (pi_list (pv 3)) (pg_name (i := 4) sc_want_back.nd rfl (Or.inl rfl)) (pss_one (ps_if (PW.pt (pw_or (pt_cmpR op_eq (pv 4) (pv 2) (nomark _)) (pw_or (pt_cmp (pc_dnotin (hu_of hr) (pv 4) (pv 1))) (pw_or1 (pt_cmpR (op_notInK (K := K)) (pv 2) (pe_dget (hu_of hr) (pv 1) (pv 4) (fun _ _ => rfl)) (by rfl)))))) (pss_one ps_never) pss_nil)))))), ?_⟩
    have ha' := wo_same.sm.seq ha
    have hp' : Paired (RowT K H) as rows := Paired.mapP hp fun _ _ q => rd q
    have hd' : RdsAt K H d rows' := rd hd
    refine ⟨_, rfl, a, rfl, ⟨_, ha'⟩, for_list (K := K) (a := a) (xs := as.map V.ref) (fun i σ H' => ∃ (x y z : Option V), σ = [some (.ref a), some (.ref d), x, y, z] ∧ Same H H') ⟨_, _, _, rfl, .refl _⟩ (fun i σ H' _ ⟨x, y, z, _, sm⟩ => sm.seq ha') ?_ (fun σ H' ⟨x, y, z, _, sm⟩ => k H' sm)⟩
    rintro i v σ H' hi ⟨x, y, z, rfl, sm⟩
    obtain ⟨t, ht, rfl⟩ := item_ref hi
    obtain ⟨r, hr1, b, h1, h2⟩ := paired_get hp' i t ht
    have hrb := hback r (List.mem_of_getElem? hr1)
    refine ⟨t, _, rfl, SqT.of (sm _ _ h1), rfl, _, _, rfl, _, _, rfl, rfl, ?_⟩
    refine ⟨_, rfl, b, rfl, ⟨_, SqL.of (sm _ _ h2)⟩, for_list (K := K) (a := b) (xs := r.2.map V.str) (fun i σ H' => ∃ z : Option V, σ = [some (.ref a), some (.ref d), some (.str r.1), some (.ref b), z] ∧ Same H H') ⟨_, rfl, sm⟩ (fun i σ H' _ ⟨z, _, sm⟩ => SqL.of (sm _ _ h2)) ?_ (fun σ H' ⟨z, e, sm⟩ => ⟨_, _, _, e, sm⟩)⟩
    rintro j v σ H2 hj ⟨z, rfl, sm2⟩
    obtain ⟨u, hu, rfl⟩ := item_str hj
    obtain ⟨b1, b2, b3⟩ := hrb u (List.mem_of_getElem? hu)
    obtain ⟨au, gu, eu⟩ := (up sm2 hd').get b2
    refine ⟨_, rfl, _, rfl, rfl, _, rfl, ?_⟩
    have e1 : decide (V.str u = V.str r.1) = false := decide_eq_false fun q => b1 (V.str.inj q)
    rw [e1]
    refine iteF ⟨_, rfl, _, rfl, d, _, rfl, gu, _, rfl, iteF ⟨_, rfl, _, rfl, _, rfl, d, _, rfl, gu, au, _, rfl, .inl eu, rfl, flat_strs _, _, rfl, ?_⟩⟩
    rw [inV_str, decide_eq_true b3]
    exact iteF ⟨_, rfl, sm2⟩
end
end Five
end
section
namespace Five
open PySem PySem.Spec PyProof.Rows L2
open PySem.W (Datum DatumOrd)
section
variable {P : Program} {w : World} {K : PySem.W.Frag} {mg : Str → Option Value} {base : Heap} {C : Addr} {cx : Nat → Addr}
def spWantFlat (K : PySem.W.Frag) : Sp := fun vs H Q _ => ∃ (M : List Addr) (d : Addr) (rows : List Row), vs = [.ref d] ∧ Al M H ∧ RdsAt K (wo H M) d rows ∧ (∃ kvs, H d = some (.dK kvs)) ∧ (∀ x ∈ vsf rows, Nm x) ∧ Pl (vsf rows) (rdf rows) ∧ rows.length ≤ 60 ∧ ∀ H', Same H H' → Q .non H'
theorem ok_want_flat (T : Txt K mg C cx) : Cal P w K mg base 4 "want_flat" (spWantFlat K) := by
  refine cal_of T.d_want_flat sc_want_flat (fun vs H Q E h => ?_) (fun f cdv A outer s H vs Q E hr h => ?_)
  · obtain ⟨M, d, rows, rfl, _⟩ := h
    rfl
  · obtain ⟨M, d, rows, rfl, al, hd, hx, hnm, pl, hlen, k⟩ := h
    refine ⟨_, (pss_cons (ps_set (i := 1) sc_want_flat.nd rfl (Or.inl rfl) (pe_c (ok_faces_in T) hr (by decide) (by rfl) (pa_cons (pv 0) pa_nil)))
      (pss_one (ps_for PassesOwn.never (by rfl) (pi_list (pe_c (ok_pieces_in T) hr (by decide) (by rfl) (pa_cons (pv 0) pa_nil))) (pg_name (i := 2) sc_want_flat.nd rfl (Or.inr rfl)) (pss_cons (ps_set (i := 3) sc_want_flat.nd rfl (Or.inl rfl) (pe_op op_fdiv (pe_callB (cr_sumK (K := K) rfl) (by rfl) T.n_sum (by decide +kernel) (pa_cons (pe_lc (own := [("place", 5)]) (by rfl) sc_want_flat.nd (pi_list (pv 2)) (blkOk_by (own := [("place", 5)]) (N := N_want_flat) (sc := defScope s_want_flat) (by decide +kernel)) (fun _ _ _ _ _ => (pg_name (i := 5) sc_want_flat.nd rfl (Or.inl rfl))) (fun _ _ _ _ _ => pts_nil) (fun _ _ _ _ _ => (pe_callB (call_lenK (K := K)) (by rfl) T.n_len (by decide +kernel) (pa_cons (pe_dget (hu_of hr) (pv 0) (pv 5) (fun _ _ => rfl)) pa_nil)))) pa_nil)) pe_int))
      (pss_cons (ps_set (i := 4) sc_want_flat.nd rfl (Or.inl rfl) (pe_callB (call_lenK (K := K)) (by rfl) T.n_len (by decide +kernel) (pa_cons (pe_lc (own := [("face", 6)]) (by rfl) sc_want_flat.nd (pi_list (pv 1)) (blkOk_by (own := [("face", 6)]) (N := N_want_flat) (sc := defScope s_want_flat) (by decide +kernel)) (fun _ _ _ _ _ => (pg_name (i := 6) sc_want_flat.nd rfl (Or.inl rfl))) (fun _ _ _ _ _ => (pts_one (pt_cmpR (op_inK (K := K)) (pe_ix (ix_listK (K := K)) (pv 6) pe_int (fun _ _ => rfl)) (pv 2) (by rfl)))) (fun _ _ _ _ _ => (pv 6))) pa_nil)))
      (pss_one (ps_if (pt_cmpR op_ne (pe_op op_add (pe_callB (call_lenK (K := K)) (by rfl) T.n_len (by decide +kernel) (pa_cons (pv 2) pa_nil)) (pv 4)) (pe_op op_add (pv 3) pe_int) (nomark _)) (pss_one ps_never) pss_nil))))))), ?_⟩
    have hvl : (vsf rows).length ≤ 60 := by rw [List.length_map]; exact hlen
    have wf := pl.wf
    obtain ⟨cs, ps, F, cd, eu⟩ := pl.flat
    have hfn : ps.flatten.Nodup := cd.perm.nodup_iff.mpr wf.nd
    refine ⟨_, rfl, M, d, rows, cs, rfl, al, hd, hx, hnm, wf, F, hlen, fun lf H1 s1 hFn => ?_⟩
    have hF : LR K (LS K) (wo H1 M) lf (facesF rows cs) := hFn.lr al
    refine ⟨_, rfl, M, d, rows, ps, rfl, al.same s1, upw s1 hd, hnm, wf.nd, cd, hlen, fun lp H2 s2 hPn => ?_⟩
    have hP : LR K (LS K) (wo H2 M) lp (srt (ps.map srt)) := hPn.lr (al.same s1)
    obtain ⟨as, hP1, hP2⟩ := hP
    have hd2 : RdsAt K (wo H2 M) d rows := upw (s1.trans s2) hd
    have hF2 : LR K (LS K) (wo H2 M) lf (facesF rows cs) := upw s2 hF
    have al2 := al.same (s1.trans s2)
    refine ⟨lp, rfl, ⟨_, wo_same.sm.seq hP1⟩, for_list (K := K) (a := lp) (xs := as.map V.ref) (fun i σ H' => ∃ (x y z u w : Option V), σ = [some (.ref d), some (.ref lf), x, y, z, u, w] ∧ Same H2 H') ⟨_, _, _, _, _, rfl, .refl _⟩ (fun i σ H' _ ⟨_, _, _, _, _, _, sm⟩ => sm.seq (wo_same.sm.seq hP1)) ?_ (fun σ H' ⟨_, _, _, _, _, _, sm⟩ => k H' ((s1.trans s2).trans sm))⟩
    rintro i v σ H' hi ⟨x, y, z, u, w', rfl, sm⟩
    obtain ⟨pa, hpa, rfl⟩ := item_ref hi
    obtain ⟨pc, hpc1, hpc2⟩ := paired_get hP2 i pa hpa
    obtain ⟨c, hc, rfl⟩ : ∃ c ∈ ps, srt c = pc := List.mem_map.mp (srt_mem.mp (List.mem_of_getElem? hpc1))
    have hcn : c.Nodup := by
      obtain ⟨rest, hp⟩ := perm_head hc
      have := (hp.flatten.nodup_iff).mp hfn
      rw [List.flatten_cons] at this
      exact (List.nodup_append.mp this).1
    have hcs : ∀ x ∈ c, x ∈ vsf rows := fun x hx => cd.perm.mem_iff.mp (List.mem_flatten.mpr ⟨c, hc, hx⟩)
    have hcl : c.length ≤ 60 := Nat.le_trans (nodup_le hcn hcs) hvl
    have hpc : LS K H' pa (srt c) := up sm (rd hpc2)
    have hdH : RdsAt K H' d rows := up sm (rd hd2)
    -- ties
    refine ⟨_, rfl, pa, rfl, ⟨_, hpc⟩, fun D hD => ?_⟩
    refine lcL (K := K) (M := []) (paired_map V.str (srt c)) (fun G v (n : Int) => v = .int n) (fun _ _ _ _ _ e => e) (fun v => some ((((rdf rows v).map V.str).length : Nat) : Int)) hD al_nil (by rw [srt_length]; exact Nat.lt_of_le_of_lt hcl (by decide)) hpc (fun v b H3 Ky Kn hb e s3 al3 ky kn => ?_) (fun ys H3 s3 hD3 hp3 => ?_)
    · subst e
      obtain ⟨a1, g1, e1⟩ := (up s3 hdH).get (hcs b (srt_mem.mp hb))
      exact ⟨rfl, lcy ⟨_, rfl, _, rfl, d, _, rfl, g1, a1, _, rfl, .inl e1, ky _ _ _ rfl (.refl _) rfl⟩⟩
    rw [filterMap_some] at hp3
    have ey := paired_vals hp3
    subst ey
    refine ⟨D, _, rfl, SqL.of hD3, _, _, rfl, rfl, ⟨by decide, by decide⟩, ?_⟩
    have esum : ((srt c).map fun v => ((((rdf rows v).map V.str).length : Nat) : Int)).sum = (deg (rdf rows) c : Int) := by
      simp only [List.length_map]
      rw [deg_sum, deg_perm (srt_perm c)]
    rw [esum]
    -- own
    obtain ⟨fs, hF21, hF22⟩ := hF2
    have hF3 := (sm.trans s3).seq (wo_same.sm.seq hF21)
    refine ⟨_, rfl, lf, rfl, ⟨_, hF3⟩, fun D2 hD2 => ?_⟩
    refine lcL (K := K) (M := M) (paired_refs' (ups (sm.trans s3) hF22)) (fun G v (x : List Str) => True) (fun _ _ _ _ _ e => e) (fun f => if hdS f ∈ srt c then some f else none) hD2 (al2.same (sm.trans s3)) (Nat.lt_of_le_of_lt (faces_len F wf hlen) (by decide)) hF3 (fun v f H4 Ky Kn hb ⟨fa, e, hfa⟩ s4 al4 ky kn => ?_) (fun ys H4 s4 hD4 hp4 => ?_)
    · subst e
      obtain ⟨f0, fr, ef⟩ := List.exists_cons_of_ne_nil (faces_ne F hb)
      have hfa' : LS K H4 fa f := up s4 (rd hfa)
      refine ⟨rfl, _, rfl, fa, _, 0, .str f0, rfl, rfl, hfa', at_map V.str (j := 0) rfl (by rw [ef]; rfl), _, rfl, pa, _, rfl, .inl (up (s3.trans s4) hpc), rfl, flat_strs _, _, rfl, ?_⟩
      rw [inV_str]
      have e0 : hdS f = f0 := by rw [ef]; rfl
      by_cases hm : f0 ∈ srt c
      · exact iteYes hm ⟨_, rfl, ky _ f _ (if_pos (by rw [e0]; exact hm)) (.refl _) trivial⟩
      · exact iteNo hm (kn _ (if_neg (by rw [e0]; exact hm)) (.refl _))
    have ylen : ys.length = nfc cs c + nlone (rdf rows) c := by
      rw [Paired.length hp4, ← own_count wf.nd F hcn hcs (cd.shut c hc)]
      have : ∀ l : List (List Str), (l.filterMap fun f => if hdS f ∈ srt c then some f else none).length = (l.filter fun f => decide (hdS f ∈ c)).length := by
        intro l
        induction l with
        | nil => rfl
        | cons f r ih =>
          rw [List.filterMap_cons, List.filter_cons]
          by_cases hm : hdS f ∈ c
          · rw [if_pos (srt_mem.mpr hm), if_pos (by simpa using hm)]
            simp [ih]
          · rw [if_neg fun q => hm (srt_mem.mp q), if_neg (by simpa using hm)]
            exact ih
      exact this _
    refine ⟨D2, _, rfl, .inl (SqL.of hD4), ?_⟩
    have hpc4 : LS K H4 pa (srt c) := up (s3.trans s4) hpc
    refine ⟨_, rfl, pa, _, rfl, .inl hpc4, _, rfl, _, _, rfl, rfl, _, rfl, _, _, rfl, rfl, rfl, _, rfl, iteNS ?_ ⟨_, _, _, _, _, rfl, (sm.trans s3).trans s4⟩⟩
    have e := eu c hc
    rw [List.length_map, srt_length, ylen]
    refine congrArg V.int ?_
    omega
end
end Five
end
section
namespace Five
open PySem PySem.Spec PyProof.Rows L2
open PySem.W (Datum DatumOrd)
section
variable {P : Program} {w : World} {K : PySem.W.Frag} {mg : Str → Option Value} {base : Heap} {C : Addr} {cx : Nat → Addr}
def spWebInit (K : PySem.W.Frag) (C : Addr) : Sp := fun vs H Q _ => ∃ (M : List Addr) (x dx a : Addr) (rows : List Row), vs = [.ref x, .ref a] ∧ H x = some (.ins C dx []) ∧ Al M H ∧ LR K (RowT K) (wo H (x :: M)) a rows ∧ RowsOk rows ∧
  ∀ (H' : Hp) (d : Addr) (kvs : List (Key × V)), Same (wo H [x]) H' → H' x = some (.ins C dx [("rounds", .ref d)]) → H d = none → H' d = some (.dK kvs) → Paired (RowKV K (nw H H')) kvs (webRows rows) → Q .non H'
theorem ok_Web_init (T : Txt K mg C cx) : ∃ f fd, Mk K C f ∧ FnOk P w K mg base CX0 5 f fd ["self", "rows"] (spWebInit K C) ∧ Binds K fd ["self", "rows"] [] := by
  obtain ⟨f, fd, F, hm, b⟩ := T.d_Web_init
  refine ⟨f, fd, hm, F.ok sc_Web_init (fun vs H Q E h => ?_) (fun cdv A outer s H vs Q E hr h => ?_), b⟩
  · obtain ⟨M, x, dx, a, rows, rfl, _⟩ := h
    rfl
  · obtain ⟨M, x, dx, a, rows, rfl, hx, al, hrows, ok, k⟩ := h
    refine ⟨_, (pss_cons (ps_expr (pe_c (ok_want_names T) hr (by decide) (by rfl) (pa_cons (pv 1) pa_nil)))
      (pss_cons (ps_expr (pe_c (ok_want_unlike T) hr (by decide) (by rfl) (pa_cons (pv 1) pa_nil)))
      (pss_cons (ps_set (i := 2) sc_Web_init.nd rfl (Or.inr rfl) (pe_callTy (call_dictK (K := K) rfl) (by rfl) T.n_dict (by decide +kernel) (pa_cons (pe_lc (own := [("place", 3), ("around", 4)]) (by rfl) sc_Web_init.nd (pi_list (pv 1)) (blkOk_by (own := [("place", 3), ("around", 4)]) (N := N_Web_init) (sc := defScope s_Web_init) (by decide +kernel)) (fun _ _ _ _ _ => (pg_tupK (K := K) 2 (by rfl) (pgs_cons (pg_name (i := 3) sc_Web_init.nd rfl (Or.inl rfl)) (pgs_cons (pg_name (i := 4) sc_Web_init.nd rfl (Or.inl rfl)) pgs_nil)))) (fun _ _ _ _ _ => pts_nil) (fun _ _ _ _ _ => (pe_tup (pa_cons (pv 3) (pa_cons (pe_callTy (call_listK (K := K)) (by rfl) T.n_list (by decide +kernel) (pa_cons (pv 4) pa_nil)) pa_nil))))) pa_nil)))
      (pss_cons (ps_expr (pe_c (ok_want_back T) hr (by decide) (by rfl) (pa_cons (pv 1) (pa_cons (pv 2) pa_nil))))
      (pss_cons (ps_expr (pe_c (ok_want_flat T) hr (by decide) (by rfl) (pa_cons (pv 2) pa_nil)))
      (pss_one (ps_fld (pv 0) (pe_callTy (call_dictK (K := K) rfl) (by rfl) T.n_dict (by decide +kernel) (pa_cons (pe_lc (own := [("place", 3)]) (by rfl) sc_Web_init.nd (pi_list (pe_callB (call_srtD rfl) (by rfl) T.n_sorted (by decide +kernel) (pa_cons (pv 2) pa_nil))) (blkOk_by (own := [("place", 3)]) (N := N_Web_init) (sc := defScope s_Web_init) (by decide +kernel)) (fun _ _ _ _ _ => (pg_name (i := 3) sc_Web_init.nd rfl (Or.inl rfl))) (fun _ _ _ _ _ => pts_nil) (fun _ _ _ _ _ => (pe_tup (pa_cons (pv 3) (pa_cons (pe_c (ok_from_least T) hr (by decide) (by rfl) (pa_cons (pe_dget (hu_of hr) (pv 2) (pv 3) (fun _ _ => rfl)) pa_nil)) pa_nil))))) pa_nil)) rfl))))))), ?_⟩
    have alx : Al (x :: M) H := al.cons hx
    have wf := ok.pl.wf
    refine ⟨_, rfl, x :: M, a, rows, rfl, alx, hrows, fun r hr => ?_, fun H1 s1 => ?_⟩
    · obtain ⟨h1, h2, h3, h4, h5⟩ := ok.row hr
      exact ⟨ok.nm _ h1, fun y hy => ok.nm y (h4 y hy).1, by omega⟩
    have al1 := alx.same s1
    refine ⟨_, rfl, x :: M, a, rows, rfl, al1, upw s1 hrows, wf.nd, fun r hr => ?_, Nat.le_trans ok.len (by decide), fun H2 s2 => ?_⟩
    · obtain ⟨h1, h2, h3, h4, h5⟩ := ok.row hr
      exact ⟨h3, by omega⟩
    have al2 := al1.same s2
    have hrows2 : LR K (RowT K) (wo H2 (x :: M)) a rows := upw s2 (upw s1 hrows)
    obtain ⟨as, ha1, ha2⟩ := id hrows2
    -- rounds = dict(..)
    refine ⟨_, rfl, a, rfl, ⟨_, wo_same.sm.seq ha1⟩, fun D hD => ?_⟩
    refine lcL (K := K) (M := x :: M) (paired_refs' ha2) (fun G v r => ∃ t, v = .ref t ∧ RowP K G t r) (rV_up (R := RowP K)) some hD al2 (Nat.lt_of_le_of_lt ok.len (by decide)) (wo_same.sm.seq ha1) (fun v r H3 Ky Kn hb ⟨t, e, b, h1, h2⟩ s3 al3 ky kn => ?_) (fun ys H3 s3 hD3 hp3 => ?_)
    · subst e
      have h1' : H3 t = some (.tup [.str r.1, .ref b]) := s3 _ _ (wo_same _ _ h1)
      have h2' : H3 b = some (.lst (r.2.map V.str)) := s3 _ _ (wo_same _ _ h2)
      refine ⟨t, _, rfl, SqT.of h1', rfl, _, _, rfl, _, _, rfl, rfl, rfl, lcy ⟨_, rfl, _, rfl, b, _, rfl, .inl (SqL.of h2'), fun l hl => ⟨by show 2 ≤ sizeLine; decide, fun t2 ht2 => ky _ r _ rfl ((Same.new hl).trans (.new ht2)) ⟨t2, rfl, l, ?_, ?_⟩⟩⟩⟩
      · exact .inl (.inl (by rw [wo_out (al3.upd.fresh ht2), upd_same]))
      · exact LS.of (Same.new ht2 _ _ upd_same) (al3.fresh hl)
    rw [List.filterMap_some] at hp3
    obtain ⟨ts, rfl, hts⟩ := paired_refs hp3
    obtain ⟨kvs, hk1, hk2⟩ := kv_of_rows hts
    refine ⟨D, ts, kvs, rfl, SqL.of hD3, Paired.mapP hk1 fun _ _ q => wo_same.sm.seqT q, fun d hd => ?_⟩
    have hkn : (kvs.map (·.1)).Nodup := by rw [rds_keys hk2]; exact nodup_inr wf.nd
    rw [mergeK_nodup hkn]
    have sd : Same H3 (upd H3 d (.dK kvs)) := .new hd
    have al3 : Al (x :: M) H3 := al2.same s3
    have al4 : Al (x :: M) (upd H3 d (.dK kvs)) := al3.same sd
    have hdn : d ∉ x :: M := al3.fresh hd
    have hrd : RdsAt K (wo (upd H3 d (.dK kvs)) (x :: M)) d rows := by
      refine ⟨kvs, .inl (by rw [wo_out hdn, upd_same]), Paired.mapP hk2 fun _ _ q => rowKV_up ?_ q⟩
      exact (wo_less (M := x :: M) (L := D :: x :: M) fun y hy => List.mem_cons_of_mem _ hy).sm.trans sd.wo.sm
    have hdx : upd H3 d (.dK kvs) d = some (.dK kvs) := upd_same
    have sH4 : Same H2 (upd H3 d (.dK kvs)) := s3.trans sd
    generalize upd H3 d (.dK kvs) = H4 at *
    -- want_back, want_flat
    refine ⟨_, rfl, _, rfl, x :: M, a, d, rows, rows, rfl, al4, upw sH4 hrows2, hrd, fun r hr y hy => ?_, fun H5 s5 => ?_⟩
    · obtain ⟨h1, h2, h3, h4, h5⟩ := ok.row hr
      exact ⟨(h4 y hy).2.1, (h4 y hy).1, (h4 y hy).2.2⟩
    have al5 := al4.same s5
    refine ⟨_, rfl, x :: M, d, rows, rfl, al5, upw s5 hrd, ⟨kvs, s5 _ _ hdx⟩, ok.nm, ok.pl, ok.len, fun H6 s6 => ?_⟩
    have al6 := al5.same s6
    have hrd6 : RdsAt K (wo H6 (x :: M)) d rows := upw s6 (upw s5 hrd)
    have sH6 : Same H H6 := ((((s1.trans s2).trans sH4).trans s5).trans s6)
    -- self.rounds = dict(..)
    have hvl : (vsf rows).length ≤ 60 := by rw [List.length_map]; exact ok.len
    refine ⟨_, rfl, d, kvs, vsf rows, rfl, .inl ((s5.trans s6) _ _ hdx), rds_keys hk2, by omega, fun sl hsl => ?_⟩
    have s7 : Same H6 (upd H6 sl (.lst ((srt (vsf rows)).map V.str))) := .new hsl
    have al7 := al6.same s7
    refine ⟨sl, rfl, ⟨_, SqL.of upd_same⟩, fun D2 hD2 => ?_⟩
    have hrd7 := upw s7 hrd6
    refine lcL (K := K) (M := x :: M) (paired_map V.str (srt (vsf rows))) (fun G v r => ∃ t, v = .ref t ∧ RowN K H G t r) (rV_up (R := RowN K H)) (fun v => some (v, fl (rdf rows v))) hD2 al7 (by rw [srt_length]; exact Nat.lt_of_le_of_lt hvl (by decide)) (SqL.of upd_same) (fun v b H8 Ky Kn hb e s8 al8 ky kn => ?_) (fun ys H8 s8 hD8 hp8 => ?_)
    · subst e
      have hbv : b ∈ vsf rows := srt_mem.mp hb
      obtain ⟨a1, g1, e1⟩ := (up s8 (rd hrd7)).get hbv
      refine ⟨rfl, lcy ⟨_, rfl, _, rfl, _, rfl, d, _, rfl, g1, a1, rdf rows b, rfl, e1, fun y hy => ok.nm y (wf.ties b hbv y hy).1, ?_, fun p H9 s9 hp hpl => ⟨by show 2 ≤ sizeLine; decide, fun t2 ht2 => ky _ (b, fl (rdf rows b)) _ rfl (s9.trans (.new ht2)) ⟨t2, rfl, p, ?_, ?_⟩⟩⟩⟩
      · exact Nat.le_trans (nodup_le (wf.rn b hbv) fun u hu => (wf.ties b hbv u hu).1) (Nat.le_trans hvl (by decide))
      · exact .inl (.inl (by rw [wo_out ((al8.same s9).fresh ht2), upd_same]))
      · have hp0 : H p = none := ((sH6.trans s7).trans s8).free hp
        exact .inl (.inl (by rw [nw_of hp0, wo_out (al8.fresh hp)]; exact Same.new ht2 _ _ hpl))
    rw [filterMap_some] at hp8
    obtain ⟨ts2, rfl, hts2⟩ := paired_refs hp8
    obtain ⟨kvs2, hk3, hk4⟩ := kv_of_rowsN hts2
    refine ⟨D2, ts2, kvs2, rfl, SqL.of hD8, Paired.mapP hk3 fun _ _ q => wo_same.sm.seqT q, fun d2 hd2 => ?_⟩
    have hkn2 : (kvs2.map (·.1)).Nodup := by
      rw [rds_keys hk4]
      refine nodup_inr ?_
      rw [show vsf ((srt (vsf rows)).map fun v => (v, fl (rdf rows v))) = srt (vsf rows) from vsf_web rows]
      exact (srt_perm _).nodup_iff.mpr wf.nd
    rw [mergeK_nodup hkn2]
    have sd2 : Same H8 (upd H8 d2 (.dK kvs2)) := .new hd2
    have sHf : Same H (upd H8 d2 (.dK kvs2)) := ((sH6.trans s7).trans s8).trans sd2
    have al9 : Al (x :: M) H8 := al7.same s8
    have ndx : d2 ≠ x := fun q => by
      have := ((sH6.trans s7).trans s8) _ _ hx
      rw [← q, hd2] at this
      cases this
    refine ⟨_, rfl, x, C, dx, _, rfl, sHf _ _ hx, T.cl, T.nR, by decide, ?_⟩
    refine k _ d2 kvs2 ?_ upd_same (((sH6.trans s7).trans s8).free hd2) ?_ ?_
    · intro q o e
      obtain ⟨h1, h2⟩ := wo_get e
      rw [upd_ne (by simpa using h2)]
      exact sHf _ _ h1
    · rw [upd_ne ndx, upd_same]
    · refine Paired.mapP hk4 fun _ _ q => rowKV_up (Same.sm fun a o e => ?_) q
      obtain ⟨h1, h2⟩ := nw_get e
      rw [nw_of h1, upd_ne (ne_of_none hx h1).symm]
      exact sd2 _ _ (wo_same _ _ h2)
theorem ok_Web (T : Txt K mg C cx) : Mak P w K mg base 5 "Web" C (spWebInit K C) := by
  obtain ⟨f, fd, h1, h2, h3⟩ := ok_Web_init (P := P) (w := w) (base := base) T
  exact ⟨f, fd, _, h1, h2, T.mgWeb, h3⟩
end
end Five
end
section
namespace Five
open PySem PySem.Spec PyProof.Rows L2
open PySem.W (Datum DatumOrd)
section
variable {P : Program} {w : World} {K : PySem.W.Frag} {mg : Str → Option Value} {base : Heap} {C : Addr} {cx : Nat → Addr}
theorem WebAt.rds {G : Hp} {x : Addr} {rows : List Row} (h : WebAt K C G x rows) : ∃ dx d, G x = some (.ins C dx [("rounds", .ref d)]) ∧ RdsAt K G d rows ∧ ∃ kvs, G d = some (.dK kvs) ∧ Paired (RowKV K G) kvs rows := by
  obtain ⟨dx, d, kvs, h1, h2, h3⟩ := h
  exact ⟨dx, d, h1, ⟨kvs, .inl h2, h3⟩, kvs, h2, h3⟩
def spPlaces (K : PySem.W.Frag) (C : Addr) : Sp := fun vs H Q _ => ∃ (x : Addr) (W : List Row), vs = [.ref x] ∧ WebAt K C H x W ∧ ∀ p, H p = none → Q (.ref p) (upd H p (.lst ((vsf W).map V.str)))
theorem ok_Web_places (T : Txt K mg C cx) : Met P w K mg base 1 C "places" (spPlaces K C) := by
  refine met_of T.cl T.d_Web_places sc_Web_places (fun vs H Q E h => ?_) (fun f cdv A outer s H vs Q E hr h => ?_)
  · obtain ⟨x, W, rfl, _⟩ := h
    rfl
  · obtain ⟨x, W, rfl, hw, k⟩ := h
    refine ⟨_, (pss_one (ps_ret (pe_callTy (call_listD rfl) (by rfl) T.n_list (by decide +kernel) (pa_cons (pe_fld (pv 0) rfl) pa_nil)))), ?_⟩
    obtain ⟨dx, d, h1, h2, kvs, h3, h4⟩ := hw.rds
    refine ⟨_, rfl, x, C, dx, _, _, rfl, h1, T.cl, T.nR, rfl, d, kvs, rfl, .inl h3, fun p hp => ?_⟩
    have e : kvs.map (fun kv => kV kv.1) = (vsf W).map V.str := by
      have := congrArg (List.map kV) (rds_keys h4)
      rw [List.map_map, List.map_map] at this
      exact this
    have := k p hp
    rw [← e] at this
    exact this
end
end Five
end
section
namespace Five
open PySem PySem.Spec PyProof.Rows L2
open PySem.W (Datum DatumOrd)
section
variable {P : Program} {w : World} {K : PySem.W.Frag} {mg : Str → Option Value} {base : Heap} {C : Addr} {cx : Nat → Addr}
def spRoundOf (K : PySem.W.Frag) (C : Addr) : Sp := fun vs H Q _ => ∃ (x : Addr) (W : List Row) (v : Str), vs = [.ref x, .str v] ∧ WebAt K C H x W ∧ v ∈ vsf W ∧ ∀ p, H p = none → Q (.ref p) (upd H p (.lst ((rdf W v).map V.str)))
theorem ok_Web_round_of (T : Txt K mg C cx) : Met P w K mg base 1 C "round_of" (spRoundOf K C) := by
  refine met_of T.cl T.d_Web_round_of sc_Web_round_of (fun vs H Q E h => ?_) (fun f cdv A outer s H vs Q E hr h => ?_)
  · obtain ⟨x, W, v, rfl, _⟩ := h
    rfl
  · obtain ⟨x, W, v, rfl, hw, hv, k⟩ := h
    refine ⟨_, (pss_cons (ps_if (pt_cmp (pc_dnotin (hu_of hr) (pv 1) (pe_fld (pv 0) rfl))) (pss_one ps_never) pss_nil)
      (pss_one (ps_ret (pe_callTy (call_listK (K := K)) (by rfl) T.n_list (by decide +kernel) (pa_cons (pe_dget (hu_of hr) (pe_fld (pv 0) rfl) (pv 1) (fun _ _ => rfl)) pa_nil))))), ?_⟩
    obtain ⟨dx, d, h1, h2, kvs, h3, h4⟩ := hw.rds
    obtain ⟨a, g1, e1⟩ := h2.get hv
    refine ⟨_, rfl, _, rfl, x, C, dx, _, _, rfl, h1, T.cl, T.nR, rfl, d, _, rfl, g1, _, rfl, iteF ?_⟩
    exact ⟨_, rfl, x, C, dx, _, _, rfl, h1, T.cl, T.nR, rfl, _, rfl, d, _, rfl, g1, a, _, rfl, .inl e1, k⟩
end
end Five
end
section
namespace Five
open PySem PySem.Spec PyProof.Rows L2
open PySem.W (Datum DatumOrd)
section
variable {P : Program} {w : World} {K : PySem.W.Frag} {mg : Str → Option Value} {base : Heap} {C : Addr} {cx : Nat → Addr}
def spIsTied (K : PySem.W.Frag) (C : Addr) : Sp := fun vs H Q _ => ∃ (x : Addr) (W : List Row) (u o : Str), vs = [.ref x, .str u, .str o] ∧ WebAt K C H x W ∧ Q (.bl (decide (u ∈ vsf W ∧ o ∈ rdf W u))) H
theorem ok_Web_is_tied (T : Txt K mg C cx) : Met P w K mg base 1 C "is_tied" (spIsTied K C) := by
  refine met_of T.cl T.d_Web_is_tied sc_Web_is_tied (fun vs H Q E h => ?_) (fun f cdv A outer s H vs Q E hr h => ?_)
  · obtain ⟨x, W, u, o, rfl, _⟩ := h
    rfl
  · obtain ⟨x, W, u, o, rfl, hw, k⟩ := h
    refine ⟨_, (pss_one (ps_ret (pe_and (pe_cmp (pc_din (hu_of hr) (pv 1) (pe_fld (pv 0) rfl)) rfl) (pe_one (pe_cmpR (op_inK (K := K)) (pv 2) (pe_dget (hu_of hr) (pe_fld (pv 0) rfl) (pv 1) (fun _ _ => rfl)) (by rfl)))))), ?_⟩
    obtain ⟨dx, d, h1, h2, kvs, h3, h4⟩ := hw.rds
    by_cases hu : u ∈ vsf W
    · obtain ⟨a, g1, e1⟩ := h2.get hu
      refine ⟨_, rfl, _, rfl, x, C, dx, _, _, rfl, h1, T.cl, T.nR, rfl, d, _, rfl, g1, true, rfl, iteT ⟨_, rfl, _, rfl, x, C, dx, _, _, rfl, h1, T.cl, T.nR, rfl, _, rfl, d, _, rfl, g1, a, _, rfl, .inl e1, rfl, flat_strs _, ?_⟩⟩
      rw [inV_str]
      have e : decide (u ∈ vsf W ∧ o ∈ rdf W u) = decide (o ∈ rdf W u) := by simp [hu]
      rw [e] at k
      exact k
    · have g1 := h2.no hu
      refine ⟨_, rfl, _, rfl, x, C, dx, _, _, rfl, h1, T.cl, T.nR, rfl, d, _, rfl, g1, false, rfl, iteF ?_⟩
      have e : decide (u ∈ vsf W ∧ o ∈ rdf W u) = false := decide_eq_false fun q => hu q.1
      rw [e] at k
      exact k
end
end Five
end
section
namespace Five
open PySem PySem.Spec PyProof.Rows L2
open PySem.W (Datum DatumOrd)
section
variable {P : Program} {w : World} {K : PySem.W.Frag} {mg : Str → Option Value} {base : Heap} {C : Addr} {cx : Nat → Addr}
def spRoundsOf (K : PySem.W.Frag) (C : Addr) : Sp := fun vs H Q _ => ∃ (x : Addr) (W : List Row), vs = [.ref x] ∧ WebAt K C H x W ∧ (vsf W).Nodup ∧ W.length ≤ 3000 ∧
  ∀ (d : Addr) (kvs : List (Key × V)) (H' : Hp), Same H H' → H d = none → H' d = some (.dK kvs) → Paired (RowKV K (nw H H')) kvs W → Q (.ref d) H'
theorem ok_rounds_of (T : Txt K mg C cx) : Cal P w K mg base 2 "rounds_of" (spRoundsOf K C) := by
  refine cal_of T.d_rounds_of sc_rounds_of (fun vs H Q E h => ?_) (fun f cdv A outer s H vs Q E hr h => ?_)
  · obtain ⟨x, W, rfl, _⟩ := h
    rfl
  · obtain ⟨x, W, rfl, hw, hn, hl, k⟩ := h
    refine ⟨_, (pss_one (ps_ret (pe_callTy (call_dictK (K := K) rfl) (by rfl) T.n_dict (by decide +kernel) (pa_cons (pe_lc (own := [("place", 1)]) (by rfl) sc_rounds_of.nd (pi_list (pe_mt0 (ok_Web_places T) hr (by decide) (pv 0))) (blkOk_by (own := [("place", 1)]) (N := N_rounds_of) (sc := defScope s_rounds_of) (by decide +kernel)) (fun _ _ _ _ _ => (pg_name (i := 1) sc_rounds_of.nd rfl (Or.inl rfl))) (fun _ _ _ _ _ => pts_nil) (fun _ _ _ _ _ => (pe_tup (pa_cons (pv 1) (pa_cons (pe_mt (ok_Web_round_of T) hr (by decide) (pv 0) (pa_cons (pv 1) pa_nil)) pa_nil))))) pa_nil)))), ?_⟩
    obtain ⟨dx, d0, h1, h2, _⟩ := hw.rds
    have hvl : (vsf W).length ≤ 3000 := by rw [List.length_map]; exact hl
    refine ⟨_, rfl, x, dx, _, rfl, h1, rfl, x, W, rfl, hw, fun p1 hp1 => ⟨p1, rfl, ⟨_, SqL.of upd_same⟩, fun D hD => ?_⟩⟩
    have s1 : Same H (upd H p1 (.lst ((vsf W).map V.str))) := .new hp1
    refine lcL (K := K) (M := []) (paired_map V.str (vsf W)) (fun G v r => ∃ t, v = .ref t ∧ RowN K H G t r) (rV_up (R := RowN K H)) (fun v => some (v, rdf W v)) hD al_nil (Nat.lt_of_le_of_lt hvl (by decide)) (SqL.of upd_same) (fun v b H3 Ky Kn hb e s3 al3 ky kn => ?_) (fun ys H3 s3 hD3 hp3 => ?_)
    · subst e
      have hw3 : WebAt K C H3 x W := up (s1.trans s3) hw
      obtain ⟨dx3, d3, h13, _⟩ := hw3.rds
      refine ⟨rfl, lcy ⟨_, rfl, _, rfl, x, dx3, _, rfl, h13, rfl, _, rfl, x, W, b, rfl, hw3, hb, fun p4 hp4 => ⟨by show 2 ≤ sizeLine; decide, fun t2 ht2 => ky _ (b, rdf W b) _ rfl ((Same.new hp4).trans (.new ht2)) ⟨t2, rfl, p4, ?_, ?_⟩⟩⟩⟩
      · exact .inl (.inl (by rw [wo_out (al3.upd.fresh ht2), upd_same]))
      · refine .inl (.inl ?_)
        rw [nw_of ((s1.trans s3).free hp4), wo_out (al3.fresh hp4)]
        exact Same.new ht2 _ _ upd_same
    rw [filterMap_some, rows_eta hn] at hp3
    obtain ⟨ts, rfl, hts⟩ := paired_refs hp3
    obtain ⟨kvs, hk1, hk2⟩ := kv_of_rowsN hts
    refine ⟨D, ts, kvs, rfl, SqL.of hD3, Paired.mapP hk1 fun _ _ q => wo_same.sm.seqT q, fun d hd => ?_⟩
    have hkn : (kvs.map (·.1)).Nodup := by rw [rds_keys hk2]; exact nodup_inr hn
    rw [mergeK_nodup hkn]
    refine k d kvs _ ((s1.trans s3).trans (.new hd)) ((s1.trans s3).free hd) upd_same (Paired.mapP hk2 fun _ _ q => rowKV_up (Same.sm (nw_up (wo_same.trans (.new hd)))) q)
def spPieces (K : PySem.W.Frag) (C : Addr) : Sp := fun vs H Q _ => ∃ (x : Addr) (W : List Row) (ps : List (List Str)), vs = [.ref x] ∧ WebAt K C H x W ∧ (∀ v ∈ vsf W, Nm v) ∧ (vsf W).Nodup ∧ CD (vsf W) (rdf W) ps ∧ W.length ≤ 60 ∧
  ∀ (l : Addr) (H' : Hp), Same H H' → NewLL H H' l (srt (ps.map srt)) → Q (.ref l) H'
theorem ok_pieces (T : Txt K mg C cx) : Cal P w K mg base 3 "pieces" (spPieces K C) := by
  refine cal_of T.d_pieces sc_pieces (fun vs H Q E h => ?_) (fun f cdv A outer s H vs Q E hr h => ?_)
  · obtain ⟨x, W, ps, rfl, _⟩ := h
    rfl
  · obtain ⟨x, W, ps, rfl, hw, hnm, hn, cd, hl, k⟩ := h
    refine ⟨_, (pss_one (ps_ret (pe_c (ok_pieces_in T) hr (by decide) (by rfl) (pa_cons (pe_c (ok_rounds_of T) hr (by decide) (by rfl) (pa_cons (pv 0) pa_nil)) pa_nil)))), ?_⟩
    refine ⟨_, rfl, x, W, rfl, hw, hn, Nat.le_trans hl (by decide), fun d kvs H1 s1 hd hdv hk => ?_⟩
    have hrd : RdsAt K (wo H1 []) d W := by rw [wo_nil]; exact ⟨kvs, .inl hdv, Paired.mapP hk fun _ _ q => rowKV_up nw_same.sm q⟩
    exact ⟨[], d, W, ps, rfl, al_nil, hrd, hnm, hn, cd, hl, fun l H2 s2 hL => k l H2 (s1.trans s2) (hL.back s1)⟩
end
end Five
end
section
namespace Five
open PySem PySem.Spec PyProof.Rows L2
open PySem.W (Datum DatumOrd)
section
variable {P : Program} {w : World} {K : PySem.W.Frag} {mg : Str → Option Value} {base : Heap} {C : Addr} {cx : Nat → Addr}
def spPot (K : PySem.W.Frag) : Sp := fun vs H Q _ => ∃ (a : Addr) (ns : List Int) (k : Int), vs = [.ref a, .int k] ∧ SqL K H a (ns.map V.int) ∧ ns.length ≤ 63 ∧ 0 ≤ k ∧ k ≤ 100 ∧ ∀ (p : Addr) (H' : Hp), Same H H' → H p = none → PotAt H' p → Q (.ref p) H'
theorem ok_law_pot (T : Txt K mg C cx) : Cal P w K mg base 1 "_law_pot" (spPot K) := by
  refine cal_of T.d_law_pot sc_law_pot (fun vs H Q E h => ?_) (fun f cdv A outer s H vs Q E hr h => ?_)
  · obtain ⟨a, ns, k, rfl, _⟩ := h
    rfl
  · obtain ⟨a, ns, k, rfl, ha, hl, hk0, hk1, kk⟩ := h
    refine ⟨_, (pss_cons (ps_set (i := 2) sc_law_pot.nd rfl (Or.inl rfl) (pe_op op_add (pe_op op_mul pe_int (pv 1)) pe_int))
      (pss_cons (ps_if (pt_cmpR op_lt (pv 1) (pe_callB (call_lenK (K := K)) (by rfl) T.n_len (by decide +kernel) (pa_cons (pv 0) pa_nil)) (nomark _)) (pss_one (ps_set (i := 2) sc_law_pot.nd rfl (Or.inl rfl) (pe_ix (ix_listK (K := K)) (pv 0) (pv 1) (fun _ _ => rfl)))) pss_nil)
      (pss_one (ps_ret (pe_lst (pa_cons (pe_callB (call_max2 rfl) (by rfl) T.n_max (by decide +kernel) (pa_cons pe_int (pa_cons (pe_op op_sub (pe_callB call_abs (by rfl) T.n_abs (by decide +kernel) (pa_cons (pv 2) pa_nil)) (pe_op op_pow pe_int pe_int)) pa_nil))) (pa_cons (pe_op op_add (pe_op op_mod (pe_callB call_abs (by rfl) T.n_abs (by decide +kernel) (pa_cons (pv 2) pa_nil)) pe_int) pe_int) pa_nil))))))), ?_⟩
    refine ⟨_, rfl, _, _, rfl, rfl, .inl ⟨by decide, by decide⟩, _, _, rfl, rfl, _, rfl, _, rfl, a, _, rfl, .inl ha, _, _, rfl, rfl, _, rfl, ?_⟩
    rw [List.length_map]
    have fin : ∀ cell : Int, ∀ p : Addr, H p = none → Q (.ref p) (upd H p (.lst [.int (if (if cell < 0 then -cell else cell) - 10 ^ 18 > 0 then (if cell < 0 then -cell else cell) - 10 ^ 18 else 0), .int ((if cell < 0 then -cell else cell) % 2147483579 + 1)])) := fun cell p hp => by
      refine kk p _ (.new hp) hp ⟨_, _, upd_same, ?_, ?_, ?_⟩
      · split <;> omega
      · have := Int.emod_nonneg (if cell < 0 then -cell else cell) (show (2147483579 : Int) ≠ 0 by decide)
        omega
      · have := Int.emod_lt_of_pos (if cell < 0 then -cell else cell) (show (0 : Int) < 2147483579 by decide)
        omega
    by_cases hk : k < (ns.length : Int)
    · have e1 : ns[k.toNat]? = some ns[k.toNat] := List.getElem?_eq_getElem (by omega)
      refine iteYes hk ⟨_, rfl, _, rfl, a, _, _, _, rfl, rfl, ha, at_map V.int (j := k.toNat) (by omega) e1, ?_⟩
      exact ⟨_, rfl, _, rfl, _, _, rfl, rfl, ⟨by decide, by decide, by decide⟩, _, _, rfl, rfl, _, _, rfl, _, rfl, _, rfl, _, _, rfl, rfl, (by show (0 : Int) < 2147483579; decide), _, _, rfl, rfl, by show 2 ≤ sizeLine; decide, fin _⟩
    · refine iteNo hk ?_
      exact ⟨_, rfl, _, rfl, _, _, rfl, rfl, ⟨by decide, by decide, by decide⟩, _, _, rfl, rfl, _, _, rfl, _, rfl, _, rfl, _, _, rfl, rfl, (by show (0 : Int) < 2147483579; decide), _, _, rfl, rfl, by show 2 ≤ sizeLine; decide, fin _⟩
def spTake (K : PySem.W.Frag) : Sp := fun vs H Q _ => ∃ (p : Addr) (m : Int), vs = [.ref p, .int m] ∧ PotAt H p ∧ 0 < m ∧ m < 1073741824 ∧ ∀ (d : Int) (H' : Hp), 0 ≤ d → d < m → Dr p H H' → Q (.int d) H'
theorem ok_law_take (T : Txt K mg C cx) : Cal P w K mg base 1 "_law_take" (spTake K) := by
  refine cal_of T.d_law_take sc_law_take (fun vs H Q E h => ?_) (fun f cdv A outer s H vs Q E hr h => ?_)
  · obtain ⟨p, m, rfl, _⟩ := h
    rfl
  · obtain ⟨p, m, rfl, pot, hm, hm2, kk⟩ := h
    obtain ⟨x, y, hp, hx, hy, hy2⟩ := id pot
    refine ⟨_, (pss_cons (ps_if (pt_cmpR op_gt (pe_ix (ix_listK (K := K)) (pv 0) pe_int (fun _ _ => rfl)) pe_int (nomark _)) (pss_cons (ps_asg (pe_callB call_divmod (by rfl) T.n_divmod (by decide +kernel) (pa_cons (pe_ix (ix_listK (K := K)) (pv 0) pe_int (fun _ _ => rfl)) (pa_cons (pv 1) pa_nil))) (pg_tupK (K := K) 2 (by rfl) (pgs_cons (pg_sub (pv 0) pe_int set_list) (pgs_cons (pg_name (i := 2) sc_law_take.nd rfl (Or.inl rfl)) pgs_nil))))
      (pss_one (ps_ret (pv 2)))) pss_nil)
      (pss_cons (ps_asg (pe_op op_mod (pe_op op_add (pe_op op_mul (pe_ix (ix_listK (K := K)) (pv 0) pe_int (fun _ _ => rfl)) pe_int) pe_int) pe_int) (pg_sub (pv 0) pe_int set_list))
      (pss_one (ps_ret (pe_op op_mod (pe_op op_fdiv (pe_op op_mod (pe_op op_mul (pe_ix (ix_listK (K := K)) (pv 0) pe_int (fun _ _ => rfl)) (pe_ix (ix_listK (K := K)) (pv 0) pe_int (fun _ _ => rfl))) pe_int) pe_int) (pv 1)))))), ?_⟩
    have a0 : ∀ (u v : Int), atI [V.int u, V.int v] 0 = some (V.int u) := fun u v => at_map V.int (l := [u, v]) (j := 0) rfl rfl
    have a1 : ∀ (u v : Int), atI [V.int u, V.int v] 1 = some (V.int v) := fun u v => at_map V.int (l := [u, v]) (j := 1) rfl rfl
    refine ⟨_, rfl, p, _, 0, _, rfl, rfl, SqL.of hp, a0 _ _, _, _, rfl, rfl, _, rfl, ?_⟩
    by_cases h0 : x > 0
    · refine iteYes h0 ⟨_, rfl, p, _, 0, _, rfl, rfl, SqL.of hp, a0 _ _, _, rfl, _, _, rfl, ⟨hm, hm2⟩, fun t ht => ?_⟩
      have ntp : p ≠ t := ne_of_none hp ht
      refine ⟨t, _, rfl, SqT.of upd_same, rfl, _, _, rfl, _, rfl, p, _, 0, 0, rfl, rfl, Same.new ht _ _ hp, rfl, _, _, rfl, rfl, _, rfl, ?_⟩
      refine kk _ _ (Int.emod_nonneg _ (by omega)) (Int.emod_lt_of_pos _ hm) ⟨fun a o e => ?_, ⟨x / m, y, by rw [upd_same]; rfl, Int.ediv_nonneg hx (by omega), hy, hy2⟩⟩
      obtain ⟨q1, q2⟩ := wo_get e
      rw [upd_ne (by simpa using q2)]
      exact Same.new ht _ _ q1
    · refine iteNo h0 ?_
      refine ⟨_, rfl, p, _, 1, _, rfl, rfl, SqL.of hp, a1 _ _, _, _, rfl, rfl, .inr ⟨by decide, by decide⟩, _, _, rfl, rfl, _, _, rfl, rfl, (by show (0 : Int) < 2147483587; decide), _, rfl, p, _, 1, 1, rfl, rfl, hp, rfl, ?_⟩
      have hy' : 0 ≤ (y * 48283 + 10007) % 2147483587 ∧ (y * 48283 + 10007) % 2147483587 < 2147483587 := ⟨Int.emod_nonneg _ (by decide), Int.emod_lt_of_pos _ (by decide)⟩
      have hz : upd H p (.lst ([V.int x, V.int y].set 1 (V.int ((y * 48283 + 10007) % 2147483587)))) p = some (.lst [.int x, .int ((y * 48283 + 10007) % 2147483587)]) := by rw [upd_same]; rfl
      refine ⟨_, rfl, p, _, 1, _, rfl, rfl, SqL.of hz, a1 _ _, _, rfl, p, _, 1, _, rfl, rfl, SqL.of hz, a1 _ _, _, _, rfl, rfl, .inl ⟨by omega, by omega⟩, _, _, rfl, rfl, (by show (0 : Int) < 2147483549; decide), _, _, rfl, rfl, ⟨by decide, by decide⟩, _, rfl, _, _, rfl, rfl, hm, ?_⟩
      refine kk _ _ (Int.emod_nonneg _ (by omega)) (Int.emod_lt_of_pos _ hm) ⟨fun a o e => ?_, ⟨x, _, hz, hx, hy'.1, by omega⟩⟩
      obtain ⟨q1, q2⟩ := wo_get e
      rw [upd_ne (by simpa using q2)]
      exact q1
def spBehindD (K : PySem.W.Frag) : Sp := fun vs H Q _ => ∃ (a : Addr) (l : List Str) (x : Str), vs = [.ref a, .str x] ∧ LS K H a l ∧ x ∈ l ∧ Q (.str (nx l x)) H
theorem ok_law_behind_d (T : Txt K mg C cx) : Cal P w K mg base 1 "_law_behind" (spBehindD K) := by
  refine cal_of T.d_law_behind sc_law_behind (fun vs H Q E h => ?_) (fun f cdv A outer s H vs Q E hr h => ?_)
  · obtain ⟨a, l, x, rfl, _⟩ := h
    rfl
  · obtain ⟨a, l, x, rfl, ha, hx, q⟩ := h
    refine ⟨_, (pss_one (ps_ret (pe_ix (ix_listK (K := K)) (pv 0) (pe_op op_mod (pe_op op_add (pe_bm PySem.F.plainAttrs_list PySem.F.slot_list_index PySem.F.type_list_index (mt_indexK (K := K)) (pv 0) (pa_cons (pv 1) pa_nil)) pe_int) (pe_callB (call_lenK (K := K)) (by rfl) T.n_len (by decide +kernel) (pa_cons (pv 0) pa_nil))) (fun _ _ => rfl)))), ?_⟩
    obtain ⟨j, g1, g2, g3, h1, h2, h3, h4⟩ := ixS hx
    refine ⟨_, rfl, _, rfl, .inl ⟨rfl, _, ha⟩, _, rfl, a, _, _, j, _, rfl, rfl, ha, rfl, flat_strs l, g1, g2, g3, _, _, rfl, rfl, _, rfl, _, _, rfl, .inl ha, _, _, rfl, rfl, ?_, _, _, _, _, rfl, rfl, ha, at_map V.str (j := (j + 1) % l.length) ?_ h4, q⟩
    · rw [List.length_map]; omega
    · rw [List.length_map]; exact cast_mod _ _
/-- what stands ahead of a corner, and behind it -/
def Cor (l : List Str) : Option Str → List Str → List Str → Prop
  | none, A, B => A = [] ∧ l = B
  | some c, A, B => ∃ A', A = A' ++ [c] ∧ c ∉ A' ∧ l = A ++ B
def spPut (K : PySem.W.Frag) : Sp := fun vs H Q _ => ∃ (p d : Addr) (W : List Row) (one other : Str) (co : Option Str) (A B : List Str), vs = [.ref d, .str one, oV' co, .str other] ∧ GD K p d H W ∧ PotAt H p ∧ d ≠ p ∧ W.length ≤ 60 ∧ one ∈ vsf W ∧ (rdf W one).length ≤ 60 ∧ Cor (rdf W one) co A B ∧
  ∀ (H' : Hp), Same (wo H [d]) H' → GD K p d H' (setR W one (A ++ other :: B)) → Q .non H'
theorem ok_law_put (T : Txt K mg C cx) : Cal P w K mg base 1 "_law_put" (spPut K) := by
  refine cal_of T.d_law_put sc_law_put (fun vs H Q E h => ?_) (fun f cdv A outer s H vs Q E hr h => ?_)
  · obtain ⟨p, d, W, one, other, co, A, B, rfl, _⟩ := h
    rfl
  · obtain ⟨p, d, W, one, other, co, A, B, rfl, hg, pot, ndp, hl, hv, hrl, hco, kk⟩ := h
    refine ⟨_, (pss_cons (ps_set (i := 4) sc_law_put.nd rfl (Or.inl rfl) (pe_dget (hu_of hr) (pv 0) (pv 1) (fun _ _ => rfl)))
      (pss_cons (ps_set (i := 5) sc_law_put.nd rfl (Or.inl rfl) pe_int)
      (pss_cons (ps_if (pt_cmpR op_notN (pv 2) pe_non (nomark _)) (pss_one (ps_set (i := 5) sc_law_put.nd rfl (Or.inl rfl) (pe_op op_add (pe_bm PySem.F.plainAttrs_list PySem.F.slot_list_index PySem.F.type_list_index (mt_indexK (K := K)) (pv 4) (pa_cons (pv 2) pa_nil)) pe_int))) pss_nil)
      (pss_one (ps_dput (hu_of hr) (pv 0) (pv 1) (pe_op op_cat (pe_op op_cat (pe_slice (sl_listK (K := K)) (pv 4) po_none (po_some (pv 5))) (pe_lst (pa_cons (pv 3) pa_nil))) (pe_slice (sl_listK (K := K)) (pv 4) (po_some (pv 5)) po_none)) rfl))))), ?_⟩
    obtain ⟨ra, g2, g1⟩ := hg.rds.getS hv
    have eAB : rdf W one = A ++ B := by
      cases co with
      | none => rw [hco.1, hco.2]; rfl
      | some c => obtain ⟨A', _, _, e⟩ := hco; exact e
    rw [eAB] at g2 hrl
    rw [List.length_append] at hrl
    refine ⟨_, rfl, _, rfl, d, _, rfl, g1 _ (.refl _), ?_⟩
    obtain ⟨kvs, hd, hP⟩ := id hg
    have hsz : kvs.length < sizeLine := by
      rw [GD.size hd hg]
      exact Nat.lt_of_le_of_lt hl (by decide)
    refine ⟨_, rfl, rfl, _, rfl, ?_⟩
    cases co with
    | none => ?n
    | some c => ?s
    case' n =>
      rw [notN'_none]
      obtain ⟨rfl, _⟩ := hco
      refine iteF ?_
      have hX1 : cutV (([] ++ B).map V.str) none (some (0 : Int)) = ([] : List Str).map V.str := by
        rw [show (0 : Int) = ((0 : Nat) : Int) from rfl, cut_to]; rfl
      have hX2 : cutV (([] ++ B).map V.str) (some (0 : Int)) none = B.map V.str := by
        rw [show (0 : Int) = ((0 : Nat) : Int) from rfl, cut_from]; rfl
    case' s =>
      rw [notN'_some]
      obtain ⟨A', rfl, hcA, _⟩ := hco
      obtain ⟨j, k1, k2, k3, m1, m2, m3, m4⟩ := ixS (l := (A' ++ [c]) ++ B) (x := c) (by simp)
      have hj : j = A'.length := by
        have hAc : ((A' ++ [c]) ++ B)[A'.length]? = some c := by simp
        rcases Nat.lt_trichotomy j A'.length with q | q | q
        · have : A'[j]? = some c := by
            rw [← m1, List.append_assoc, List.getElem?_append_left q]
          exact absurd (List.mem_of_getElem? this) hcA
        · exact q
        · exact absurd rfl (m2 _ _ q hAc)
      refine iteT ⟨_, rfl, .inl ⟨rfl, _, g2⟩, _, rfl, ra, _, _, j, _, rfl, rfl, g2, rfl, flat_strs _, k1, k2, k3, _, _, rfl, rfl, ?_⟩
      have eX : (j : Int) + 1 = (((A' ++ [c]).length : Nat) : Int) := by rw [hj]; simp
      have hX1 : cutV (((A' ++ [c]) ++ B).map V.str) none (some ((j : Int) + 1)) = (A' ++ [c]).map V.str := by
        rw [eX, cut_to, ← List.map_take, List.take_left]
      have hX2 : cutV (((A' ++ [c]) ++ B).map V.str) (some ((j : Int) + 1)) none = B.map V.str := by
        rw [eX, cut_from, ← List.map_drop, List.drop_left]
    all_goals (
      refine ⟨_, rfl, _, rfl, _, rfl, ra, _, rfl, g2, fun c1 hc1 => ?_⟩
      rw [hX1]
      refine ⟨_, rfl, by show 1 ≤ sizeLine; decide, fun c2 hc2 => ⟨c1, c2, _, _, rfl, rfl, Same.new hc2 _ _ upd_same, upd_same, ?_, fun c3 hc3 => ?_⟩⟩
      · rw [List.length_map]
        exact Nat.le_trans (show _ + 1 ≤ 60 + 1 by omega) (by decide)
      refine ⟨_, rfl, _, rfl, _, rfl, ra, _, rfl, (((Same.new hc1).trans (.new hc2)).trans (.new hc3)).seq g2, fun c4 hc4 => ?_⟩
      rw [hX2]
      refine ⟨c3, c4, _, _, rfl, rfl, Same.new hc4 _ _ upd_same, upd_same, ?_, fun c5 hc5 => ?_⟩
      · rw [List.length_append, List.length_map, List.length_map]
        exact Nat.le_trans (show _ ≤ 60 + 1 + 60 by simp; omega) (by decide)
      refine ⟨_, rfl, _, rfl, d, _, rfl, DPut.k (k := Sum.inr one) (((((Same.new hc1).trans (.new hc2)).trans (.new hc3)).trans ((Same.new hc4).trans (.new hc5))) _ _ hd) hsz, ?_⟩
      have hfr := ((((Same.new hc1).trans (.new hc2)).trans (.new hc3)).trans (Same.new hc4)).free hc5
      refine kk _ (GD.fin1 ((((Same.new hc1).trans (.new hc2)).trans (.new hc3)).trans ((Same.new hc4).trans (.new hc5)))) (GD.fin2 ((((Same.new hc1).trans (.new hc2)).trans (.new hc3)).trans ((Same.new hc4).trans (.new hc5))) hg hd pot hv hfr upd_same ?_)
      simp)
end
end Five
end
section
namespace Five
open PySem PySem.Spec PyProof.Rows L2
open PySem.W (Datum DatumOrd)
section
variable {P : Program} {w : World} {K : PySem.W.Frag} {mg : Str → Option Value} {base : Heap} {C : Addr} {cx : Nat → Addr}
def spFace (K : PySem.W.Frag) : Sp := fun vs H Q _ => ∃ (d : Addr) (W : List Row) (c o : Str) (r : List (Str × Str)), vs = [.ref d, .str c, .str o] ∧ RdsAt K H d W ∧ Wf (vsf W) (rdf W) ∧
  (∀ x ∈ (c, o) :: r, x ∈ darts (vsf W) (rdf W)) ∧ Path (fs (rdf W)) (c, o) r (c, o) ∧ ((c, o) :: r).Nodup ∧ r.length ≤ 3600 ∧
  ∀ (l : Addr) (ts : List Addr) (H' : Hp), Same H H' → H l = none → H' l = some (.lst (ts.map V.ref)) → Paired (T2 K (wo H' [l])) ts ((c, o) :: r) → Q (.ref l) H'
theorem ok_law_face (T : Txt K mg C cx) : Cal P w K mg base 2 "_law_face" (spFace K) := by
  refine cal_of T.d_law_face sc_law_face (fun vs H Q E h => ?_) (fun f cdv A outer s H vs Q E hr h => ?_)
  · obtain ⟨d, W, c, o, r, rfl, _⟩ := h
    rfl
  · obtain ⟨d, W, c, o, r, rfl, hd, wf, hin, hp, hnd, hlen, k⟩ := h
    refine ⟨_, (pss_cons (ps_set (i := 3) sc_law_face.nd rfl (Or.inl rfl) (pe_lst pa_nil))
      (pss_cons (ps_set (i := 4) sc_law_face.nd rfl (Or.inl rfl) (pe_tup (pa_cons (pv 1) (pa_cons (pv 2) pa_nil))))
      (pss_cons (ps_while PassesOwn.never (pt_cmpR (op_notInTK (K := K) (Str × Str) hr.units) (pv 4) (pv 3) (by rfl)) (pss_cons (ps_expr (pe_bm PySem.F.plainAttrs_list PySem.F.slot_list_append PySem.F.type_list_append mt_append (pv 3) (pa_cons (pv 4) pa_nil)))
      (pss_one (ps_set (i := 4) sc_law_face.nd rfl (Or.inl rfl) (pe_tup (pa_cons (pe_ix (ix_tupK (K := K)) (pv 4) pe_int (fun _ _ => rfl)) (pa_cons (pe_c (ok_law_behind_d T) hr (by decide) (by rfl) (pa_cons (pe_dget (hu_of hr) (pv 0) (pe_ix (ix_tupK (K := K)) (pv 4) pe_int (fun _ _ => rfl)) (fun _ _ => rfl)) (pa_cons (pe_ix (ix_tupK (K := K)) (pv 4) pe_int (fun _ _ => rfl)) pa_nil))) pa_nil)))))))
      (pss_one (ps_ret (pv 3)))))), ?_⟩
    have nxt : ∀ (x : Str × Str), x ∈ darts (vsf W) (rdf W) → x.2 ∈ vsf W ∧ x.1 ∈ rdf W x.2 := fun x hc => by
      obtain ⟨x1, y1⟩ := mem_darts.mp hc
      obtain ⟨a, _, b⟩ := wf.ties x.1 x1 x.2 y1
      exact ⟨a, b⟩
    refine ⟨Nat.zero_le _, fun l hl => ⟨_, rfl, _, rfl, by show 2 ≤ sizeLine; decide, fun t ht => ?_⟩⟩
    have s0 : Same H (upd H l (.lst [])) := .new hl
    have s1 : Same H (upd (upd H l (.lst [])) t (.tup [.str c, .str o])) := s0.trans (.new ht)
    have ntl : t ≠ l := fun e => by rw [e, upd_same] at ht; cases ht
    refine ⟨fun m σ H' => ∃ (D R : List (Str × Str)) (ts : List Addr) (tc : Addr), (c, o) :: r = D ++ R ∧ m = R.length ∧ σ = [some (.ref d), some (.str c), some (.str o), some (.ref l), some (.ref tc)] ∧ Same H H' ∧ H' l = some (.lst (ts.map V.ref)) ∧ Paired (T2 K (wo H' [l])) ts D ∧ T2 K (wo H' [l]) tc ((R ++ [(c, o)]).headD (c, o)), ?_, ?_⟩
    · exact ⟨_, [], (c, o) :: r, [], t, rfl, rfl, rfl, s1, by rw [upd_ne ntl.symm, upd_same]; rfl, .nil, T2.of upd_same (by simpa using ntl)⟩
    · rintro m σ H' ⟨D, R, ts, tc, er, rfl, rfl, sm, hL, hT, hc⟩
      refine ⟨_, rfl, _, rfl, _, l, _, D, rfl, T2.dp (K := K) (rd hc), SqL.of hL, dpAll_refs (R := T2 K) (fun _ _ h => h.dp) (upp wo_same hT), _, rfl, ?_⟩
      cases R with
      | nil =>
        rw [List.append_nil] at er
        refine iteNo (fun q => q (by rw [← er]; exact List.mem_cons_self)) ⟨_, rfl, k l ts H' sm hl hL (by rw [er]; exact hT)⟩
      | cons x R =>
        have hxin : x ∈ (c, o) :: r := by rw [er]; simp
        have hxD : x ∉ D := fun q => by
          rw [er] at hnd
          exact (List.nodup_append.mp hnd).2.2 x q x List.mem_cons_self rfl
        refine iteYes hxD ⟨_, fun _ _ z => z, ?_⟩
        have hts : ts.length ≤ 3601 := by
          rw [Paired.length hT]
          have := congrArg List.length er
          simp at this
          omega
        refine ⟨_, rfl, .inl ⟨rfl, _, SqL.of hL⟩, _, rfl, l, _, _, rfl, rfl, hL, by rw [List.length_map]; exact Nat.lt_of_le_of_lt hts (by decide), ?_⟩
        have s2 : Same H (upd H' l (.lst (ts.map V.ref ++ [.ref tc]))) := sm.mut hl
        have hc2 : T2 K (wo (upd H' l (.lst (ts.map V.ref ++ [.ref tc]))) [l]) tc x := by rw [wo_mut (by simp)]; exact hc
        have hcv : upd H' l (.lst (ts.map V.ref ++ [.ref tc])) tc = some (.tup [.str x.1, .str x.2]) := rd hc2
        obtain ⟨hc1, hc3⟩ := nxt x (hin x hxin)
        obtain ⟨a2, e2, g2⟩ := hd.getS hc1
        refine ⟨_, rfl, tc, _, _, _, rfl, rfl, SqT.of hcv, rfl, _, rfl, _, rfl, tc, _, _, _, rfl, rfl, SqT.of hcv, rfl, d, _, rfl, g2 _ s2, _, rfl, tc, _, _, _, rfl, rfl, SqT.of hcv, rfl, a2, _, x.1, rfl, up s2 e2, hc3, by show 2 ≤ sizeLine; decide, fun t2 ht2 => ?_⟩
        have s3 : Same (upd H' l (.lst (ts.map V.ref ++ [.ref tc]))) (upd (upd H' l (.lst (ts.map V.ref ++ [.ref tc]))) t2 (.tup [.str x.2, .str (nx (rdf W x.2) x.1)])) := .new ht2
        refine ⟨R.length, Nat.lt_succ_self _, D ++ [x], R, ts ++ [tc], t2, by rw [er]; simp, rfl, rfl, s2.trans s3, ?_, ?_, ?_⟩
        · refine s3 _ _ ?_
          rw [upd_same, List.map_append]
          rfl
        · refine ups s3 (paired_snoc ?_ hc2)
          rw [wo_mut (by simp)]
          exact hT
        · have hpx : Path (fs (rdf W)) x R (c, o) := by
            cases D with
            | nil =>
              injection er with e1 e2
              rw [← e1, ← e2]
              exact hp
            | cons y D =>
              injection er with e1 e2
              rw [e2] at hp
              exact (path_app.mp hp).2
          rw [← path_next hpx]
          exact T2.of upd_same (fun z => by rw [List.mem_singleton.mp z, upd_same] at ht2; cases ht2)
end
end Five
end
section
namespace Five
open PySem PySem.Spec PyProof.Rows L2
open PySem.W (Datum DatumOrd)
section
variable {P : Program} {w : World} {K : PySem.W.Frag} {mg : Str → Option Value} {base : Heap} {C : Addr} {cx : Nat → Addr}
def spTie (K : PySem.W.Frag) : Sp := fun vs H Q _ => ∃ (p d : Addr) (W : List Row), vs = [.ref p, .ref d] ∧ GD K p d H W ∧ PotAt H p ∧ d ≠ p ∧ W.length ≤ 60 ∧ Pl (vsf W) (rdf W) ∧
  ∀ (H' : Hp) (W' : List Row), D2 p d H H' → GD K p d H' W' → vsf W' = vsf W → Pl (vsf W') (rdf W') → Q .non H'
theorem ok_law_tie (T : Txt K mg C cx) : Cal P w K mg base 3 "_law_tie" (spTie K) := by
  refine cal_of T.d_law_tie sc_law_tie (fun vs H Q E h => ?_) (fun f cdv A outer s H vs Q E hr h => ?_)
  · obtain ⟨p, d, W, rfl, _⟩ := h
    rfl
  · obtain ⟨p, d, W, rfl, hg, pot, ndp, hlen, pl, kk⟩ := h
    refine ⟨_, (pss_cons (ps_set (i := 2) sc_law_tie.nd rfl (Or.inl rfl) (pe_callB (cr_srtSK (K := K) hr.units) (by rfl) T.n_sorted (by decide +kernel) (pa_cons (pe_lock (pe_lc (own := [("_law_name", 9)]) (by rfl) sc_law_tie.nd (pi_keys (pv 1)) (blkOk_by (own := [("_law_name", 9)]) (N := N_law_tie) (sc := defScope s_law_tie) (by decide +kernel)) (fun _ _ _ _ _ => (pg_name (i := 9) sc_law_tie.nd rfl (Or.inl rfl))) (fun _ _ _ _ _ => (pts_one (pt_cmpR (op_neK (K := K) (List Str) hr.units) (pe_dget (hu_of hr) (pv 1) (pv 9) (fun _ _ => rfl)) (pe_lst pa_nil) (nomark _)))) (fun _ _ _ _ _ => (pv 9)))) pa_nil)))
      (pss_cons (ps_if (pt_cmpR (op_eqK (K := K) (List Str) hr.units) (pv 2) (pe_lst pa_nil) (nomark _)) (pss_one ps_retN) pss_nil)
      (pss_cons (ps_set (i := 3) sc_law_tie.nd rfl (Or.inl rfl) (pe_ix (ix_listK (K := K)) (pv 2) (pe_c (ok_law_take T) hr (by decide) (by rfl) (pa_cons (pv 0) (pa_cons (pe_callB (call_lenK (K := K)) (by rfl) T.n_len (by decide +kernel) (pa_cons (pv 2) pa_nil)) pa_nil))) (fun _ _ => rfl)))
      (pss_cons (ps_set (i := 4) sc_law_tie.nd rfl (Or.inl rfl) (pe_ix (ix_listK (K := K)) (pe_dget (hu_of hr) (pv 1) (pv 3) (fun _ _ => rfl)) (pe_c (ok_law_take T) hr (by decide) (by rfl) (pa_cons (pv 0) (pa_cons (pe_callB (call_lenK (K := K)) (by rfl) T.n_len (by decide +kernel) (pa_cons (pe_dget (hu_of hr) (pv 1) (pv 3) (fun _ _ => rfl)) pa_nil)) pa_nil))) (fun _ _ => rfl)))
      (pss_cons (ps_set (i := 5) sc_law_tie.nd rfl (Or.inl rfl) (pe_c (ok_law_face T) hr (by decide) (by rfl) (pa_cons (pv 1) (pa_cons (pv 4) (pa_cons (pv 3) pa_nil)))))
      (pss_cons (ps_set (i := 6) sc_law_tie.nd rfl (Or.inl rfl) (pe_c (ok_law_take T) hr (by decide) (by rfl) (pa_cons (pv 0) (pa_cons (pe_callB (call_lenK (K := K)) (by rfl) T.n_len (by decide +kernel) (pa_cons (pv 5) pa_nil)) pa_nil))))
      (pss_one (ps_for PassesOwn.never (by rfl) (pi_list (pe_op op_cat (pe_slice (sl_listK (K := K)) (pv 5) (po_some (pv 6)) po_none) (pe_slice (sl_listK (K := K)) (pv 5) po_none (po_some (pv 6))))) (pg_tupK (K := K) 2 (by rfl) (pgs_cons (pg_name (i := 7) sc_law_tie.nd rfl (Or.inl rfl)) (pgs_cons (pg_name (i := 8) sc_law_tie.nd rfl (Or.inl rfl)) pgs_nil))) (pss_one (ps_if (PW.pt (pw_and (pt_cmpR op_ne (pv 8) (pv 3) (nomark _)) (pw_and1 (pt_cmpR (op_notInK (K := K)) (pv 8) (pe_dget (hu_of hr) (pv 1) (pv 3) (fun _ _ => rfl)) (by rfl))))) (pss_cons (ps_expr (pe_c (ok_law_put T) hr (by decide) (by rfl) (pa_cons (pv 1) (pa_cons (pv 3) (pa_cons (pv 4) (pa_cons (pv 8) pa_nil))))))
      (pss_cons (ps_expr (pe_c (ok_law_put T) hr (by decide) (by rfl) (pa_cons (pv 1) (pa_cons (pv 8) (pa_cons (pv 7) (pa_cons (pv 3) pa_nil))))))
      (pss_one ps_retN))) pss_nil)))))))))), ?_⟩
    have hvl : (vsf W).length ≤ 60 := by rw [List.length_map]; exact hlen
    have hrl : ∀ v ∈ vsf W, (rdf W v).length ≤ 60 := fun v hv => Nat.le_trans (nodup_le (pl.wf.rn v hv) fun u hu => (pl.wf.ties v hv u hu).1) hvl
    obtain ⟨kvs, hk1, hkP⟩ := id hg
    have hk2 : Paired (RowKV K H) kvs W := Paired.mapP hkP fun _ _ q => rowKV_up wo_same.sm q
    -- the places with ties
    refine ⟨d, .dK kvs, hk1, trivial, fun od => ?_⟩
    have sL : Sm H (upd H d (.frz od (.dK kvs))) := lock_sm hk1 trivial id
    have hdL : RdsAt K (upd H d (.frz od (.dK kvs))) d W := Mn.up sL hg.rds
    refine ⟨_, rfl, d, od, rfl, .inl ⟨kvs, upd_same, fun l hl => ?_⟩⟩
    have ndl : l ≠ d := fun e => by rw [e, upd_same] at hl; cases hl
    have hl0 : H l = none := by rw [upd_ne ndl] at hl; exact hl
    refine lcK (M := []) (l := vsf W) (rds_keys hk2) (fun G v (x : Str) => v = .str x) (fun _ _ _ _ _ e => e) (fun v => if rdf W v = [] then none else some v) hl al_nil (Nat.lt_of_le_of_lt hvl (by decide)) upd_same (fun b H3 Ky Kn hb s4 al4 ky kn => ?_) (fun ys H3 s4 hD3 hp3 => ?_)
    · obtain ⟨a1, g1, e1⟩ := (up s4 hdL).get hb
      refine ⟨rfl, _, rfl, _, rfl, d, _, rfl, g1, Nat.zero_le _, fun e he => ?_⟩
      refine ⟨_, _, (up (.new he) e1).dp, nil_dp (SqL.of upd_same), _, rfl, ?_⟩
      by_cases hem : rdf W b = []
      · exact iteNo (fun q => q hem) (kn _ (if_pos hem) (.new he))
      · exact iteYes hem ⟨_, rfl, ky _ b _ (if_neg hem) (.new he) rfl⟩
    have ey := paired_vals hp3
    subst ey
    have hns : ∀ v ∈ (vsf W).filterMap (fun v => if rdf W v = [] then none else some v), v ∈ vsf W ∧ rdf W v ≠ [] := fun v hv => by
      obtain ⟨u, h1, h2⟩ := List.mem_filterMap.mp hv
      by_cases e : rdf W u = []
      · rw [if_pos e] at h2; cases h2
      · rw [if_neg e] at h2
        cases h2
        exact ⟨h1, e⟩
    have hnsl : ((vsf W).filterMap (fun v => if rdf W v = [] then none else some v)).length ≤ 60 := Nat.le_trans (List.length_filterMap_le _ _) hvl
    generalize (vsf W).filterMap (fun v => if rdf W v = [] then none else some v) = ns at *
    obtain ⟨u1, u2, u3⟩ := unlock_all (N := []) hk1 s4 (by simp)
    refine ⟨u1, ?_⟩
    have hL0 : upd H3 d (.dK kvs) l = some (.lst (ns.map V.str)) := by rw [upd_ne ndl]; exact hD3
    generalize upd H3 d (.dK kvs) = HA at *
    refine ⟨l, ns, rfl, SqL.of hL0, fun sl hsl => ?_⟩
    have sB : Same H (upd HA sl (.lst ((srt ns).map V.str))) := u2.trans (.new hsl)
    have hsl0 : H sl = none := u2.free hsl
    have nslp : sl ≠ p := fun e => pot.ne (by rw [← e]; exact hsl0)
    have hslv : upd HA sl (.lst ((srt ns).map V.str)) sl = some (.lst ((srt ns).map V.str)) := upd_same
    generalize upd HA sl (.lst ((srt ns).map V.str)) = HB at *
    refine ⟨_, rfl, Nat.zero_le _, fun e he => ?_⟩
    have sC : Same H (upd HB e (.lst [])) := sB.trans (.new he)
    have hslC := Same.new (o := .lst []) he _ _ hslv
    refine ⟨_, _, LS.dp (SqL.of hslC), nil_dp (SqL.of upd_same), _, rfl, ?_⟩
    by_cases hem0 : srt ns = []
    · exact iteYes hem0 (kk _ W ((D2.refl pot).same sC) (hg.same sC) rfl pl)
    refine iteNo hem0 ?_
    generalize upd HB e (.lst []) = HC at *
    have hsn : 0 < (srt ns).length := List.length_pos_iff.mpr hem0
    have hsn2 : (srt ns).length ≤ 60 := by rw [srt_length]; exact hnsl
    have dC : Dr p H HC := (Dr.refl pot).same sC
    -- one
    refine ⟨_, rfl, _, rfl, _, rfl, sl, _, rfl, .inl (SqL.of hslC), p, _, rfl, dC.pot, by rw [List.length_map]; omega, by rw [List.length_map]; omega, fun j H1 hj0 hj1 dj => ?_⟩
    rw [List.length_map] at hj1
    have d1 : Dr p H H1 := dC.trans dj
    obtain ⟨o, ho⟩ : ∃ o, (srt ns)[j.toNat]? = some o := ⟨_, List.getElem?_eq_getElem (by omega)⟩
    refine ⟨sl, _, _, _, rfl, rfl, SqL.of (dj.get nslp hslC), at_map V.str (j := j.toNat) (by omega) ho, ?_⟩
    obtain ⟨hov, hor⟩ := hns o (srt_mem.mp (List.mem_of_getElem? ho))
    have hrp : 0 < (rdf W o).length := List.length_pos_iff.mpr hor
    have hrl1 := hrl o hov
    -- the corner
    have hg1 := hg.dr ndp d1
    obtain ⟨ra, g2w, g1⟩ := hg1.getM hov
    have g2 : LS K H1 ra (rdf W o) := rd g2w
    refine ⟨_, rfl, _, rfl, d, _, rfl, g1 _ (.refl _), _, rfl, _, rfl, _, rfl, d, _, rfl, g1 _ (.refl _), ra, _, rfl, .inl g2, p, _, rfl, d1.pot, by rw [List.length_map]; omega, by rw [List.length_map]; omega, fun j2 H2 hj2 hj3 dj2 => ?_⟩
    rw [List.length_map] at hj3
    have d2 : Dr p H H2 := d1.trans dj2
    have hg2 := hg.dr ndp d2
    have g22 : LS K H2 ra (rdf W o) := up (Dr.wo2 dj2) g2w
    obtain ⟨c, hc⟩ : ∃ c, (rdf W o)[j2.toNat]? = some c := ⟨_, List.getElem?_eq_getElem (by omega)⟩
    have hcm : c ∈ rdf W o := List.mem_of_getElem? hc
    refine ⟨ra, _, _, _, rfl, rfl, g22, at_map V.str (j := j2.toNat) (by omega) hc, ?_⟩
    -- the face
    have hdart : (c, o) ∈ darts (vsf W) (rdf W) := mem_darts.mpr ⟨(pl.wf.ties o hov c hcm).1, (pl.wf.ties o hov c hcm).2.2⟩
    obtain ⟨r, hp, hin, hrn, hlr⟩ := fd_path pl hdart
    have hlr2 : r.length ≤ 3600 := by
      have : (vsf W).length * (vsf W).length ≤ 60 * 60 := Nat.mul_le_mul hvl hvl
      omega
    refine ⟨_, rfl, _, rfl, _, rfl, d, W, c, o, r, rfl, hg2.rds, pl.wf, hin, hp, hrn, hlr2, fun ls ts H4 s4 hls hL hT => ?_⟩
    have d4 : Dr p H H4 := d2.same s4
    have hlt : ts.length = r.length + 1 := by rw [Paired.length hT]; simp
    have nlsp : ls ≠ p := d2.ne hls
    refine ⟨_, rfl, _, rfl, ls, _, rfl, .inl (SqL.of hL), p, _, rfl, d4.pot, by rw [List.length_map]; omega, by rw [List.length_map]; omega, fun fi H5 hf0 hf1 dj5 => ?_⟩
    have d5 : Dr p H H5 := d4.trans dj5
    have hL5 : H5 ls = some (.lst (ts.map V.ref)) := dj5.get nlsp hL
    have hT5 : Paired (T2 K H5) ts ((c, o) :: r) := Paired.mapP hT fun t z h => by
      obtain ⟨q1, q2⟩ := wo_get (show wo H4 [ls] t = _ from h)
      exact dj5.get (fun e => by
        obtain ⟨x, y, hx, _⟩ := d4.pot
        rw [e, hx] at q1
        cases q1) q1
    obtain ⟨fj, rfl⟩ : ∃ fj : Nat, fi = (fj : Int) := ⟨fi.toNat, by omega⟩
    refine ⟨_, rfl, _, rfl, _, rfl, ls, _, rfl, SqL.of hL5, fun c1 hc1 => ⟨_, rfl, _, rfl, _, rfl, ls, _, rfl, SqL.of (Same.new hc1 _ _ hL5), fun c2 hc2 => ⟨c1, c2, _, _, rfl, rfl, Same.new hc2 _ _ upd_same, upd_same, ?_, fun c3 hc3 => ?_⟩⟩⟩
    · rw [cut_from, cut_to, List.length_drop, List.length_take, List.length_map]
      exact Nat.le_trans (show _ ≤ 3601 + 3601 by omega) (by decide)
    have s6 : Same H5 (upd (upd (upd H5 c1 (.lst (cutV (ts.map V.ref) (some (fj : Int)) none))) c2 (.lst (cutV (ts.map V.ref) none (some (fj : Int))))) c3 (.lst (cutV (ts.map V.ref) (some (fj : Int)) none ++ cutV (ts.map V.ref) none (some (fj : Int))))) := ((Same.new hc1).trans (.new hc2)).trans (.new hc3)
    have d6 := d5.same s6
    have hc3v : upd (upd (upd H5 c1 (.lst (cutV (ts.map V.ref) (some (fj : Int)) none))) c2 (.lst (cutV (ts.map V.ref) none (some (fj : Int))))) c3 (.lst (cutV (ts.map V.ref) (some (fj : Int)) none ++ cutV (ts.map V.ref) none (some (fj : Int)))) c3 = some (.lst ((ts.drop fj ++ ts.take fj).map V.ref)) := by
      rw [upd_same, cut_from, cut_to, List.map_append, List.map_drop, List.map_take]
    have hT6 := paired_rot (upp s6 hT5) fj
    generalize upd (upd (upd H5 c1 (.lst (cutV (ts.map V.ref) (some (fj : Int)) none))) c2 (.lst (cutV (ts.map V.ref) none (some (fj : Int))))) c3 (.lst (cutV (ts.map V.ref) (some (fj : Int)) none ++ cutV (ts.map V.ref) none (some (fj : Int)))) = H6 at *
    have hg6 := hg.dr ndp d6
    refine ⟨c3, rfl, ⟨_, SqL.of hc3v⟩, for_list (K := K) (a := c3) (xs := (ts.drop fj ++ ts.take fj).map V.ref) (fun i σ H' => ∃ (x y z : Option V), σ = [some (.ref p), some (.ref d), some (.ref sl), some (.str o), some (.str c), some (.ref ls), some (.int fj), x, y, z] ∧ H' = H6) ⟨_, _, _, rfl, rfl⟩ (fun i σ H' _ ⟨x, y, z, _, e⟩ => by rw [e]; exact SqL.of hc3v) ?_ (fun σ H' ⟨x, y, z, _, e⟩ => ?_)⟩
    · rintro i v σ H' hi ⟨x, y, z, rfl, rfl⟩
      obtain ⟨t, ht, rfl⟩ := item_ref hi
      obtain ⟨⟨pp, q⟩, hs1, hs2⟩ := paired_get hT6 i t ht
      have hsin : (pp, q) ∈ (c, o) :: r := by
        rcases List.mem_append.mp (List.mem_of_getElem? hs1) with z | z
        · exact List.mem_of_mem_drop z
        · exact List.mem_of_mem_take z
      have hsd := hin _ hsin
      obtain ⟨hpv, hqr⟩ := mem_darts.mp hsd
      obtain ⟨hqv, _, hpq⟩ := pl.wf.ties pp hpv q hqr
      have hs2' : H' t = some (.tup [.str pp, .str q]) := hs2
      refine ⟨t, _, rfl, SqT.of hs2', rfl, _, _, rfl, _, _, rfl, rfl, ?_⟩
      obtain ⟨rb, e6, g6⟩ := hg6.rds.getS hov
      refine ⟨_, rfl, _, rfl, rfl, _, rfl, ?_⟩
      by_cases hqo : q = o
      · rw [decide_eq_true (show V.str q = V.str o by rw [hqo])]
        exact iteF (iteF ⟨_, _, _, rfl, rfl⟩)
      rw [decide_eq_false (show ¬ V.str q = V.str o from fun e => hqo (V.str.inj e))]
      refine iteT ⟨_, rfl, _, rfl, _, rfl, d, _, rfl, g6 _ (.refl _), rb, _, rfl, .inl e6, rfl, flat_strs _, _, rfl, ?_⟩
      rw [inV_str]
      by_cases hqin : q ∈ rdf W o
      · rw [decide_eq_true hqin]
        exact iteF ⟨_, _, _, rfl, rfl⟩
      rw [decide_eq_false hqin]
      -- the two ends of the tie
      obtain ⟨A1, B1, hA1, eA⟩ := cor_ex hcm
      refine iteT ⟨_, rfl, _, rfl, _, rfl, _, rfl, p, d, W, o, q, some c, A1 ++ [c], B1, rfl, hg6, d6.pot, ndp, hlen, hov, hrl1, ⟨A1, rfl, hA1, eA⟩, fun H7 s7 hg7 => ?_⟩
      obtain ⟨C1, D1, hC1, eC⟩ := cor_ex hpq
      have hq7 : rdf (setR W o ((A1 ++ [c]) ++ q :: B1)) q = rdf W q := rdf_setR_ne hqo
      have D7 : D2 p d H H7 := ((D2.refl pot).dr d6).mut s7 ndp
      refine ⟨_, rfl, _, rfl, _, rfl, _, rfl, p, d, setR W o ((A1 ++ [c]) ++ q :: B1), q, o, some pp, C1 ++ [pp], D1, rfl, hg7, D7.pot, ndp, by rw [setR_len]; exact hlen, by rw [vsf_setR]; exact hqv, by rw [hq7]; exact hrl q hqv, ⟨C1, rfl, hC1, by rw [hq7]; exact eC⟩, fun H8 s8 hg8 => ?_⟩
      have ev : vsf (setR (setR W o ((A1 ++ [c]) ++ q :: B1)) q ((C1 ++ [pp]) ++ o :: D1)) = vsf W := by rw [vsf_setR, vsf_setR]
      refine kk H8 _ (D7.mut s8 ndp) hg8 ev ?_
      rw [ev]
      have hsr : (pp, q) ∈ r := (List.mem_cons.mp hsin).resolve_left fun e => hqo (Prod.mk.inj e).2
      obtain ⟨X, Y, er, _⟩ := mem_split hsr
      rw [er] at hp
      refine Pl.chord (A := A1) (B := B1) (C := C1) (D := D1) pl hov hqv hqo hqin (by rw [eA]; simp) ?_ (by rw [eC]; simp) ?_ (fun v hv h1 h2 => ?_) ⟨X, (path_app.mp hp).1⟩
      · rw [rdf_setR_ne (fun e => hqo e.symm), rdf_setR_eq hov]; simp
      · rw [rdf_setR_eq (by rw [vsf_setR]; exact hqv)]; simp
      · rw [rdf_setR_ne h2, rdf_setR_ne h1]
    · rw [e]
      exact kk H6 W ((D2.refl pot).dr d6) hg6 rfl pl
end
end Five
end
section
namespace Five
open PySem PySem.Spec PyProof.Rows L2
open PySem.W (Datum DatumOrd)
section
variable {P : Program} {w : World} {K : PySem.W.Frag} {mg : Str → Option Value} {base : Heap} {C : Addr} {cx : Nat → Addr}
def spMore (K : PySem.W.Frag) : Sp := fun vs H Q _ => ∃ (p d : Addr) (W : List Row) (nm : Str), vs = [.ref p, .ref d, .str nm] ∧ GD K p d H W ∧ PotAt H p ∧ d ≠ p ∧ W.length ≤ 59 ∧ nm ∉ vsf W ∧ Pl (vsf W) (rdf W) ∧
  ∀ (H' : Hp) (W' : List Row), D2 p d H H' → GD K p d H' W' → vsf W' = vsf W ++ [nm] → Pl (vsf W') (rdf W') → Q .non H'
theorem ok_law_more (T : Txt K mg C cx) : Cal P w K mg base 2 "_law_more" (spMore K) := by
  refine cal_of T.d_law_more sc_law_more (fun vs H Q E h => ?_) (fun f cdv A outer s H vs Q E hr h => ?_)
  · obtain ⟨p, d, W, nm, rfl, _⟩ := h
    rfl
  · obtain ⟨p, d, W, nm, rfl, hg, pot, ndp, hlen, hnm, pl, kk⟩ := h
    refine ⟨_, (pss_cons (ps_set (i := 3) sc_law_more.nd rfl (Or.inl rfl) (pe_callB (call_srtD rfl) (by rfl) T.n_sorted (by decide +kernel) (pa_cons (pv 1) pa_nil)))
      (pss_cons (ps_dput (hu_of hr) (pv 1) (pv 2) (pe_lst pa_nil) rfl)
      (pss_cons (ps_if (PW.pt (pw_or (pt_cmpR (op_eqK (K := K) (List Str) hr.units) (pv 3) (pe_lst pa_nil) (nomark _)) (pw_or1 (pt_cmpR op_eq (pe_c (ok_law_take T) hr (by decide) (by rfl) (pa_cons (pv 0) (pa_cons pe_int pa_nil))) pe_int (nomark _))))) (pss_one ps_retN) pss_nil)
      (pss_cons (ps_set (i := 4) sc_law_more.nd rfl (Or.inl rfl) (pe_ix (ix_listK (K := K)) (pv 3) (pe_c (ok_law_take T) hr (by decide) (by rfl) (pa_cons (pv 0) (pa_cons (pe_callB (call_lenK (K := K)) (by rfl) T.n_len (by decide +kernel) (pa_cons (pv 3) pa_nil)) pa_nil))) (fun _ _ => rfl)))
      (pss_cons (ps_set (i := 5) sc_law_more.nd rfl (Or.inl rfl) pe_non)
      (pss_cons (ps_if (pt_cmpR (op_neK (K := K) (List Str) hr.units) (pe_dget (hu_of hr) (pv 1) (pv 4) (fun _ _ => rfl)) (pe_lst pa_nil) (nomark _)) (pss_one (ps_set (i := 5) sc_law_more.nd rfl (Or.inl rfl) (pe_ix (ix_listK (K := K)) (pe_dget (hu_of hr) (pv 1) (pv 4) (fun _ _ => rfl)) (pe_c (ok_law_take T) hr (by decide) (by rfl) (pa_cons (pv 0) (pa_cons (pe_callB (call_lenK (K := K)) (by rfl) T.n_len (by decide +kernel) (pa_cons (pe_dget (hu_of hr) (pv 1) (pv 4) (fun _ _ => rfl)) pa_nil)) pa_nil))) (fun _ _ => rfl)))) pss_nil)
      (pss_cons (ps_expr (pe_c (ok_law_put T) hr (by decide) (by rfl) (pa_cons (pv 1) (pa_cons (pv 4) (pa_cons (pv 5) (pa_cons (pv 2) pa_nil))))))
      (pss_one (ps_dput (hu_of hr) (pv 1) (pv 2) (pe_lst (pa_cons (pv 4) pa_nil)) rfl))))))))), ?_⟩
    have hvl : (vsf W).length ≤ 59 := by rw [List.length_map]; exact hlen
    have hrl : ∀ v ∈ vsf W, (rdf W v).length ≤ 59 := fun v hv => Nat.le_trans (nodup_le (pl.wf.rn v hv) fun u hu => (pl.wf.ties v hv u hu).1) hvl
    obtain ⟨kvs, hk1, hkP⟩ := id hg
    have hk2 : Paired (RowKV K H) kvs W := Paired.mapP hkP fun _ _ q => rowKV_up wo_same.sm q
    have hsz : kvs.length < sizeLine := by
      rw [GD.size hk1 hg]
      exact Nat.lt_of_le_of_lt hlen (by decide)
    refine ⟨_, rfl, d, kvs, vsf W, rfl, .inl hk1, rds_keys hk2, Nat.lt_of_le_of_lt hvl (by decide), fun sl hsl => ?_⟩
    have hslv : upd H sl (.lst ((srt (vsf W)).map V.str)) sl = some (.lst ((srt (vsf W)).map V.str)) := upd_same
    have sS : Same H (upd H sl (.lst ((srt (vsf W)).map V.str))) := .new hsl
    have nsp : sl ≠ p := fun e => pot.ne (by rw [← e]; exact hsl)
    have nsd : sl ≠ d := fun e => by rw [e, hk1] at hsl; cases hsl
    generalize upd H sl (.lst ((srt (vsf W)).map V.str)) = HS at *
    refine ⟨Nat.zero_le _, fun c1 hc1 => ⟨_, rfl, _, rfl, d, _, rfl, DPut.k (k := Sum.inr nm) (Same.new hc1 _ _ (sS _ _ hk1)) hsz, ?_⟩⟩
    have hc10 := sS.free hc1
    have D1 : D2 p d H (upd (upd HS c1 (.lst [])) d (.dK (putK kvs (Sum.inr nm) (.ref c1)))) := (D2.refl pot).mut (GD.fin1 (sS.trans (.new hc1))) ndp
    have hg1 : GD K p d (upd (upd HS c1 (.lst [])) d (.dK (putK kvs (Sum.inr nm) (.ref c1)))) (W ++ [(nm, [])]) := GD.fin3 (sS.trans (.new hc1)) hg hk1 pot hnm hc10 (a := c1) upd_same rfl
    have hsl1 : upd (upd HS c1 (.lst [])) d (.dK (putK kvs (Sum.inr nm) (.ref c1))) sl = some (.lst ((srt (vsf W)).map V.str)) := by
      rw [upd_ne nsd]
      exact Same.new hc1 _ _ hslv
    generalize upd (upd HS c1 (.lst [])) d (.dK (putK kvs (Sum.inr nm) (.ref c1))) = H1 at *
    have ev1 : vsf (W ++ [(nm, ([] : List Str))]) = vsf W ++ [nm] := by unfold vsf; rw [List.map_append]; rfl
    have rd1 : ∀ v, v ∈ vsf W → rdf (W ++ [(nm, ([] : List Str))]) v = rdf W v := fun v hv => by
      rw [rdf_app (r := (nm, [])) hnm, if_neg]
      intro e
      exact hnm (by rw [← show v = nm from e]; exact hv)
    have rdn : rdf (W ++ [(nm, ([] : List Str))]) nm = [] := by rw [rdf_app (r := (nm, [])) hnm, if_pos rfl]
    have lone : Pl (vsf (W ++ [(nm, ([] : List Str))])) (rdf (W ++ [(nm, ([] : List Str))])) := by
      rw [ev1]
      exact pl.lone hnm rdn rd1
    refine ⟨_, rfl, Nat.zero_le _, fun e he => ?_⟩
    have s1 : Same H1 (upd H1 e (.lst [])) := .new he
    refine ⟨_, _, LS.dp (SqL.of (s1 _ _ hsl1)), nil_dp (SqL.of upd_same), _, rfl, ?_⟩
    by_cases hem : srt (vsf W) = []
    · exact iteYes hem (kk _ _ (D1.same s1) (hg1.same s1) ev1 lone)
    refine iteNo hem ?_
    have D2' := D1.same s1
    have hg2 := hg1.same s1
    have hsl2 := s1 _ _ hsl1
    generalize upd H1 e (.lst []) = H2 at *
    have hsn : 0 < (srt (vsf W)).length := List.length_pos_iff.mpr hem
    have hsn2 : (srt (vsf W)).length ≤ 59 := by rw [srt_length]; exact hvl
    refine ⟨_, rfl, p, 9, rfl, D2'.pot, by decide, by decide, fun dg H3 hd0 hd1 dj => ⟨rfl, _, rfl, ?_⟩⟩
    have D3 := D2'.dr dj
    have hg3 := hg2.dr ndp dj
    have hsl3 : H3 sl = some (.lst ((srt (vsf W)).map V.str)) := dj.get nsp hsl2
    by_cases hdg : dg = 0
    · rw [decide_eq_true (show V.int dg = V.int 0 by rw [hdg])]
      exact iteT (kk _ _ D3 hg3 ev1 lone)
    rw [decide_eq_false (show ¬ V.int dg = V.int 0 from fun q => hdg (V.int.inj q))]
    refine iteF ⟨_, rfl, _, rfl, _, rfl, sl, _, rfl, .inl (SqL.of hsl3), p, _, rfl, D3.pot, by rw [List.length_map]; omega, by rw [List.length_map]; omega, fun j H4 hj0 hj1 dj4 => ?_⟩
    rw [List.length_map] at hj1
    have D4 := D3.dr dj4
    have hg4 := hg3.dr ndp dj4
    obtain ⟨o, ho⟩ : ∃ o, (srt (vsf W))[j.toNat]? = some o := ⟨_, List.getElem?_eq_getElem (by omega)⟩
    have hov : o ∈ vsf W := srt_mem.mp (List.mem_of_getElem? ho)
    have hno : nm ≠ o := fun q => hnm (by rw [q]; exact hov)
    have hov1 : o ∈ vsf (W ++ [(nm, ([] : List Str))]) := by rw [ev1]; exact List.mem_append_left _ hov
    refine ⟨sl, _, _, _, rfl, rfl, SqL.of (dj4.get nsp hsl3), at_map V.str (j := j.toNat) (by omega) ho, ?_⟩
    obtain ⟨ra, g2w, g1⟩ := hg4.getM hov1
    rw [rd1 o hov] at g2w
    refine ⟨_, rfl, _, rfl, d, _, rfl, g1 _ (.refl _), Nat.zero_le _, fun e2 he2 => ?_⟩
    have s5 : Same H4 (upd H4 e2 (.lst [])) := .new he2
    refine ⟨_, _, (up s5 (rd g2w)).dp, nil_dp (SqL.of upd_same), _, rfl, ?_⟩
    have D5 := D4.same s5
    have hg5 := hg4.same s5
    have g25 : LS K (upd H4 e2 (.lst [])) ra (rdf W o) := up s5 (rd g2w)
    have g15 := g1 _ s5
    have g1t : ∀ H', Same (upd H4 e2 (.lst [])) H' → DGet H' d (.str o) (some (.ref ra)) := fun H' q => g1 _ (s5.trans q)
    generalize upd H4 e2 (.lst []) = H5 at *
    have hrl1 := hrl o hov
    have fin : ∀ (H6 : Hp) (A B : List Str), D2 p d H H6 → GD K p d H6 (W ++ [(nm, [])]) → rdf W o = A ++ B → ∀ H7, Same (wo H6 [d]) H7 → GD K p d H7 (setR (W ++ [(nm, [])]) o (A ++ nm :: B)) → ∀ c8, H7 c8 = none → ∀ kvs7, H7 d = some (.dK kvs7) → Q .non (upd (upd H7 c8 (.lst [.str o])) d (.dK (putK kvs7 (Sum.inr nm) (.ref c8)))) := fun H6 A B D6 hg6 eAB H7 s7 hg7 c8 hc8 kvs7 hkv7 => by
      have D7 := D6.mut s7 ndp
      have hnv : nm ∈ vsf (setR (W ++ [(nm, ([] : List Str))]) o (A ++ nm :: B)) := by rw [vsf_setR, ev1]; simp
      have ev3 : vsf (setR (setR (W ++ [(nm, ([] : List Str))]) o (A ++ nm :: B)) nm [o]) = vsf W ++ [nm] := by rw [vsf_setR, vsf_setR, ev1]
      refine kk _ (setR (setR (W ++ [(nm, [])]) o (A ++ nm :: B)) nm [o]) (D7.mut (GD.fin1 (.new hc8)) ndp) (GD.fin2 (.new hc8) hg7 hkv7 D7.pot hnv hc8 (a := c8) upd_same rfl) ev3 ?_
      rw [ev3]
      refine pl.leaf (P := A) (S := B) hnm hov (rdf_setR_eq hnv) eAB ?_ fun v hv hvo => ?_
      · rw [rdf_setR_ne (fun q => hno q.symm), rdf_setR_eq hov1]
      · rw [rdf_setR_ne (fun q => hnm (by rw [← q]; exact hv)), rdf_setR_ne hvo, rd1 v hv]
    have hl1 : (W ++ [(nm, ([] : List Str))]).length ≤ 60 := by rw [List.length_append]; simp; omega
    by_cases hor : rdf W o = []
    · refine iteNo (fun q => q hor) ⟨_, rfl, _, rfl, _, rfl, _, rfl, p, d, W ++ [(nm, [])], o, nm, none, [], rdf W o, rfl, hg5, D5.pot, ndp, hl1, hov1, by rw [rd1 o hov]; omega, ⟨rfl, rd1 o hov⟩, fun H7 s7 hg7 => ?_⟩
      obtain ⟨kvs7, hkv7, _⟩ := id hg7
      exact ⟨_, rfl, by show 1 ≤ sizeLine; decide, fun c8 hc8 => ⟨_, rfl, _, rfl, d, _, rfl, DPut.k (k := Sum.inr nm) (Same.new hc8 _ _ hkv7) (by rw [GD.size hkv7 hg7, setR_len]; exact Nat.lt_of_le_of_lt hl1 (by decide)), fin H5 [] (rdf W o) D5 hg5 rfl H7 s7 hg7 c8 hc8 kvs7 hkv7⟩⟩
    · have hrp : 0 < (rdf W o).length := List.length_pos_iff.mpr hor
      refine iteYes hor ⟨_, rfl, _, rfl, d, _, rfl, g15, _, rfl, _, rfl, _, rfl, d, _, rfl, g15, ra, _, rfl, .inl g25, p, _, rfl, D5.pot, by rw [List.length_map]; omega, by rw [List.length_map]; omega, fun j2 H6 hj2 hj3 dj6 => ?_⟩
      rw [List.length_map] at hj3
      have D6 := D5.dr dj6
      have hg6 := hg5.dr ndp dj6
      have g26 : LS K H6 ra (rdf W o) := by
        refine up (R := LS K) (fun b z q => ?_) g2w
        obtain ⟨q1, q2⟩ := wo_get q
        exact dj6.get (fun y => q2 (by rw [y]; simp)) (s5 _ _ q1)
      obtain ⟨c, hc⟩ : ∃ c, (rdf W o)[j2.toNat]? = some c := ⟨_, List.getElem?_eq_getElem (by omega)⟩
      obtain ⟨A1, B1, hA1, eA⟩ := cor_ex (List.mem_of_getElem? hc)
      refine ⟨ra, _, _, _, rfl, rfl, g26, at_map V.str (j := j2.toNat) (by omega) hc, ?_⟩
      refine ⟨_, rfl, _, rfl, _, rfl, _, rfl, p, d, W ++ [(nm, [])], o, nm, some c, A1 ++ [c], B1, rfl, hg6, D6.pot, ndp, hl1, hov1, by rw [rd1 o hov]; omega, ⟨A1, rfl, hA1, by rw [rd1 o hov]; exact eA⟩, fun H7 s7 hg7 => ?_⟩
      obtain ⟨kvs7, hkv7, _⟩ := id hg7
      exact ⟨_, rfl, by show 1 ≤ sizeLine; decide, fun c8 hc8 => ⟨_, rfl, _, rfl, d, _, rfl, DPut.k (k := Sum.inr nm) (Same.new hc8 _ _ hkv7) (by rw [GD.size hkv7 hg7, setR_len]; exact Nat.lt_of_le_of_lt hl1 (by decide)), fin H6 (A1 ++ [c]) B1 D6 hg6 eA H7 s7 hg7 c8 hc8 kvs7 hkv7⟩⟩
end
end Five
end
section
namespace Five
open PySem PySem.Spec PyProof.Rows L2
open PySem.W (Datum DatumOrd)
theorem joinL_one : ∀ cs : List Nat, TL.joinL [] (cs.map fun c => [c]) = cs
  | [] => rfl
  | [_] => rfl
  | a :: b :: r => by
    show [a] ++ ([] ++ TL.joinL [] ((b :: r).map fun c => [c])) = _
    rw [joinL_one (b :: r)]
    rfl
theorem join_one (cs : List Nat) : Txt.join (Str.ofString "") (cs.map fun c => (⟨#[c]⟩ : Str)) = txt cs := by
  rw [TL.join_eq]
  have h := TL.tl_join (Str.ofString "") (cs.map fun c => (⟨#[c]⟩ : Str))
  have e : (cs.map fun c => (⟨#[c]⟩ : Str)).map TL.tl = cs.map fun c => [c] := by rw [List.map_map]; rfl
  rw [e, show TL.tl (Str.ofString "") = [] from rfl, joinL_one] at h
  rw [← txt_of (Str.join (Str.ofString "") (cs.map fun c => (⟨#[c]⟩ : Str)))]
  exact congrArg txt h
section
variable {P : Program} {w : World} {K : PySem.W.Frag} {mg : Str → Option Value} {base : Heap} {C : Addr} {cx : Nat → Addr}
def spNames (K : PySem.W.Frag) : Sp := fun vs H Q _ => ∃ (p : Addr) (n : Nat), vs = [.ref p, .int n] ∧ PotAt H p ∧ n ≤ 26 ∧
  ∀ (l : Addr) (names : List Str) (H' : Hp), Dr p H H' → H l = none → H' l = some (.lst (names.map V.str)) → names.length = n → names.Nodup → (∀ x ∈ names, Nm x) → Q (.ref l) H'
theorem ok_law_names (T : Txt K mg C cx) : Cal P w K mg base 2 "_law_names" (spNames K) := by
  refine cal_of T.d_law_names sc_law_names (fun vs H Q E h => ?_) (fun f cdv A outer s H vs Q E hr h => ?_)
  · obtain ⟨p, n, rfl, _⟩ := h
    rfl
  · obtain ⟨p, n, rfl, pot, hn, kk⟩ := h
    refine ⟨_, (pss_cons (ps_set (i := 2) sc_law_names.nd rfl (Or.inr rfl) pe_str)
      (pss_cons (ps_set (i := 3) sc_law_names.nd rfl (Or.inl rfl) (pe_c (ok_law_take T) hr (by decide) (by rfl) (pa_cons (pv 0) (pa_cons pe_int pa_nil))))
      (pss_cons (ps_set (i := 4) sc_law_names.nd rfl (Or.inl rfl) (pe_lst pa_nil))
      (pss_cons (ps_for PassesOwn.never (by rfl) (pi_range1 (by rfl) T.n_range (pa_cons (pv 1) pa_nil)) (pg_name (i := 5) sc_law_names.nd rfl (Or.inl rfl)) (pss_cons (ps_setLc (i := 6) (own := [("_law_turn", 7)]) (by rfl) sc_law_names.nd rfl rfl (sw_true rfl rfl rfl (by decide +kernel)) (pi_range1 (by rfl) T.n_range (pa_cons (pe_ix (ix_listK (K := K)) (pe_lst (pa_cons pe_int (pa_cons pe_int (pa_cons pe_int pa_nil)))) (pe_c (ok_law_take T) hr (by decide) (by rfl) (pa_cons (pv 0) (pa_cons pe_int pa_nil))) (fun _ _ => rfl)) pa_nil)) (blkOk_by (own := [("_law_turn", 7)]) (N := N_law_names) (sc := defScope s_law_names) (by decide +kernel)) (fun _ _ _ _ _ => (pg_name (i := 7) sc_law_names.nd rfl (Or.inl rfl))) (fun _ _ _ _ _ => pts_nil) (fun _ _ _ _ _ => (pe_ix ix_str (pv 2) (pe_c (ok_law_take T) hr (by decide) (by rfl) (pa_cons (pv 0) (pa_cons pe_int pa_nil))) (fun _ _ => rfl))))
      (pss_one (ps_expr (pe_bm PySem.F.plainAttrs_list PySem.F.slot_list_append PySem.F.type_list_append mt_append (pv 4) (pa_cons (pe_op op_add_str (pe_ix ix_str (pv 2) (pe_op op_mod (pe_op op_add (pv 3) (pe_op op_mul pe_int (pv 5))) pe_int) (fun _ _ => rfl)) (pe_join pe_str (pv 6))) pa_nil))))))
      (pss_one (ps_ret (pv 4))))))), ?_⟩
    refine ⟨_, rfl, p, 26, rfl, pot, by decide, by decide, fun sh H1 hs0 hs1 d1 => ?_⟩
    obtain ⟨si, rfl⟩ : ∃ si : Nat, sh = (si : Int) := ⟨sh.toNat, by omega⟩
    have hsA : abc.length ≤ sizeLine := by decide +kernel
    refine ⟨Nat.zero_le _, fun lf hlf => ?_⟩
    have nlf : lf ≠ p := d1.ne hlf
    have hlf0 : H lf = none := d1.free hlf
    have ha26 : ∀ m : Nat, m < 26 → atI abc.cps.toList (m : Int) = some (97 + m) := fun m hm => atI_nat (abc_at hm)
    refine ⟨_, rfl, n, rfl, by omega, by omega, for_range (lo := 0) (n := ((n : Nat) : Int).toNat) (fun i σ H' => ∃ (x y z : Option V) (cs : List (List Nat)), σ = [some (.ref p), some (.int n), some (.str abc), some (.int si), some (.ref lf), x, y, z] ∧ Dr p H H' ∧ H' lf = some (.lst ((cs.map txt).map V.str)) ∧ cs.length = i ∧ ∀ k l, cs[k]? = some l → ∃ t, l = (97 + (si + 11 * k) % 26) :: t ∧ t.length ≤ 7 ∧ ∀ c ∈ t, 97 ≤ c ∧ c ≤ 122) ?_ ?_ ?_⟩
    · exact ⟨_, _, _, [], rfl, d1.new hlf, upd_same, rfl, fun k l h => by simp at h⟩
    · rintro i σ H' hi ⟨x, y, z, cs, rfl, dr, hL, hcl, hcs⟩
      have hi' : i < n := by omega
      refine ⟨by show 3 ≤ sizeLine; decide, fun c hc => ⟨_, rfl, p, 3, rfl, dr.pot.same (.new hc), by decide, by decide, fun dg H2 hd0 hd1 d2 => ?_⟩⟩
      have ncp : c ≠ p := dr.ne hc
      have hc2 : H2 c = some (.lst (([0, 1, 7] : List Int).map V.int)) := d2.get ncp (by rw [upd_same]; rfl)
      have dr2 := (dr.new (o := .lst [.int 0, .int 1, .int 7]) hc).trans d2
      obtain ⟨m, hm, hm0, hm7⟩ : ∃ m : Int, ([0, 1, 7] : List Int)[dg.toNat]? = some m ∧ 0 ≤ m ∧ m ≤ 7 := by
        have hcs : dg.toNat = 0 ∨ dg.toNat = 1 ∨ dg.toNat = 2 := by omega
        rcases hcs with e | e | e <;> rw [e]
        · exact ⟨0, rfl, by omega, by omega⟩
        · exact ⟨1, rfl, by omega, by omega⟩
        · exact ⟨7, rfl, by omega, by omega⟩
      refine ⟨c, _, _, .int m, rfl, rfl, SqL.of hc2, at_map V.int (j := dg.toNat) (by omega) hm, m, rfl, by omega, by omega, fun D hD => ?_⟩
      have nDp : D ≠ p := dr2.ne hD
      have hD0 : H D = none := dr2.free hD
      have nDl : D ≠ lf := fun e => by
        have : H2 lf = some (.lst ((cs.map txt).map V.str)) := d2.get nlf (Same.new hc _ _ hL)
        rw [e, this] at hD
        cases hD
      have hL2 : H2 lf = some (.lst ((cs.map txt).map V.str)) := d2.get nlf (Same.new hc _ _ hL)
      refine ⟨fun q u H3 => ∃ (ts : List Nat), u = m.toNat - q ∧ q ≤ m.toNat ∧ Dr p H H3 ∧ H3 lf = some (.lst ((cs.map txt).map V.str)) ∧ H3 D = some (.lst ((ts.map fun c => (⟨#[c]⟩ : Str)).map V.str)) ∧ ts.length = q ∧ ∀ c ∈ ts, 97 ≤ c ∧ c ≤ 122, ⟨_, [], rfl, Nat.zero_le _, dr2.new hD, by rw [upd_ne nDl.symm]; exact hL2, upd_same, rfl, fun c h => (nomatch h)⟩, ?_⟩
      rintro q u H3 ⟨ts, rfl, hq, dr3, hL3, hD3, htl, hts⟩
      by_cases hqm : q < m.toNat
      · refine .inr ⟨hqm, fun H4 => ∃ (ts : List Nat), Dr p H H4 ∧ H4 lf = some (.lst ((cs.map txt).map V.str)) ∧ H4 D = some (.lst ((ts.map fun c => (⟨#[c]⟩ : Str)).map V.str)) ∧ ts.length = q + 1 ∧ ∀ c ∈ ts, 97 ≤ c ∧ c ≤ 122, fun H4 ⟨ts, h1, h2, h3, h4, h5⟩ => ⟨_, by omega, ts, rfl, hqm, h1, h2, h3, h4, h5⟩, ?_⟩
        rintro v H4 ⟨rfl, rfl⟩
        refine ⟨rfl, lcy ⟨_, rfl, _, rfl, p, 26, rfl, dr3.pot, by decide, by decide, fun e H5 he0 he1 d5 => ?_⟩⟩
        obtain ⟨ei, rfl⟩ : ∃ ei : Nat, e = (ei : Int) := ⟨e.toNat, by omega⟩
        have hD5 := d5.get nDp hD3
        refine ⟨abc, _, 97 + ei, rfl, rfl, hsA, ha26 _ (by omega), _, hD5, ?_, ts ++ [97 + ei], (dr3.trans d5).mut hD0 nDp, by rw [upd_ne nDl.symm]; exact d5.get nlf hL3, by rw [upd_same]; simp, by rw [List.length_append, htl]; rfl, fun c hc => ?_⟩
        · rw [List.length_map, List.length_map]
          exact Nat.lt_of_le_of_lt (show ts.length ≤ 7 by omega) (by decide)
        · rcases List.mem_append.mp hc with z | z
          · exact hts c z
          · rw [List.mem_singleton.mp z]; omega
      · refine .inl ⟨Nat.le_of_not_lt hqm, ?_⟩
        have hmul : CMul (11 : Int) (0 + (i : Int)) := .inl ⟨by decide, by decide⟩
        have e26 : ((si : Int) + 11 * (0 + (i : Int))) % 26 = (((si + 11 * i) % 26 : Nat) : Int) := by
          rw [show (0 : Int) + (i : Int) = (i : Int) by omega]; simp
        refine ⟨_, rfl, .inl ⟨rfl, _, SqL.of hL3⟩, _, rfl, _, rfl, _, rfl, _, _, rfl, rfl, hmul, _, _, rfl, rfl, _, _, rfl, rfl, (by show (0 : Int) < 26; decide), abc, _, 97 + (si + 11 * i) % 26, rfl, rfl, hsA, (by rw [e26]; exact ha26 _ (Nat.mod_lt _ (by decide))), ⟨_, rfl⟩, _, rfl, _, D, _, rfl, rfl, .inl (SqL.of hD3), ?_, _, _, rfl, rfl, ?_, lf, _, _, rfl, rfl, hL3, ?_, ?_⟩
        · have : ∀ l : List Nat, ((l.map fun c => (⟨#[c]⟩ : Str)).map (·.length)).sum = l.length := fun l => by
            induction l with
            | nil => rfl
            | cons a l ih =>
              rw [List.map_cons, List.map_cons, List.sum_cons, ih, List.length_cons]
              show 1 + l.length = _
              omega
          rw [this]
          show ts.length + _ * 0 ≤ _
          omega
        · rw [join_one, txt_len]
          show 1 + ts.length ≤ sizeLine
          exact Nat.le_trans (show 1 + ts.length ≤ 8 by omega) (by decide)
        · rw [List.length_map, List.length_map, hcl]
          exact Nat.lt_of_lt_of_le (show i < 27 by omega) (by decide)
        · refine ⟨_, _, _, cs ++ [(97 + (si + 11 * i) % 26) :: ts], rfl, dr3.mut hlf0 nlf, ?_, by rw [List.length_append, hcl]; rfl, fun k l hk => ?_⟩
          · rw [upd_same, join_one, show ((⟨#[97 + (si + 11 * i) % 26]⟩ : Str)) = txt [97 + (si + 11 * i) % 26] from rfl, txt_app]
            simp
          · by_cases hki : k < cs.length
            · rw [List.getElem?_append_left hki] at hk
              exact hcs k l hk
            · have hke : k = cs.length := by
                have := (List.getElem?_eq_some_iff.mp hk).1
                rw [List.length_append] at this
                simp at this
                omega
              subst hke
              rw [List.getElem?_append_right (Nat.le_refl _)] at hk
              simp at hk
              exact ⟨ts, by rw [← hk, hcl], by omega, hts⟩
    · rintro σ H' ⟨x, y, z, cs, rfl, dr, hL, hcl, hcs⟩
      have en : ((n : Nat) : Int).toNat = n := by simp
      rw [en] at hcl
      refine ⟨_, rfl, kk lf (cs.map txt) H' dr hlf0 hL (by rw [List.length_map]; exact hcl) ?_ fun x hx => ?_⟩
      · have hnd : ∀ (c1 : List (List Nat)), (∀ k l, c1[k]? = some l → ∃ t, l = (97 + (si + 11 * k) % 26) :: t) → c1.length ≤ 26 → (c1.map txt).Nodup := by
          intro c1 h1 h2
          refine List.pairwise_iff_getElem.mpr fun a b ha hb hab e => ?_
          rw [List.getElem_map, List.getElem_map] at e
          rw [List.length_map] at ha hb
          have e' := txt_inj e
          obtain ⟨t1, e1⟩ := h1 a _ (List.getElem?_eq_getElem ha)
          obtain ⟨t2, e2⟩ := h1 b _ (List.getElem?_eq_getElem hb)
          rw [e1, e2] at e'
          injection e' with e3 _
          omega
        exact hnd cs (fun k l hk => let ⟨t, e, _⟩ := hcs k l hk; ⟨t, e⟩) (by omega)
      · obtain ⟨l, hl, rfl⟩ := List.mem_map.mp hx
        obtain ⟨k, hk⟩ := List.mem_iff_getElem?.mp hl
        obtain ⟨t, e, h1, h2⟩ := hcs k l hk
        refine nm_txt (by rw [e]; simp) (by rw [e]; simp; omega) fun c hc => ?_
        rw [e] at hc
        rcases List.mem_cons.mp hc with z | z
        · have := Nat.mod_lt (si + 11 * k) (show 0 < 26 by decide)
          omega
        · exact h2 c z
end
end Five
end
section
namespace Five
open PySem PySem.Spec PyProof.Rows L2
open PySem.W (Datum DatumOrd)
section
variable {P : Program} {w : World} {K : PySem.W.Frag} {mg : Str → Option Value} {base : Heap} {C : Addr} {cx : Nat → Addr}
def spRounds (K : PySem.W.Frag) : Sp := fun vs H Q _ => ∃ (p : Addr) (most : Nat), vs = [.ref p, .int most] ∧ PotAt H p ∧ most ≤ 25 ∧
  ∀ (d : Addr) (W : List Row) (H' : Hp), Dr p H H' → H d = none → d ≠ p → GD K p d H' W → Pl (vsf W) (rdf W) → (∀ v ∈ vsf W, Nm v) → W.length ≤ most → Q (.ref d) H'
theorem ok_law_rounds (T : Txt K mg C cx) : Cal P w K mg base 4 "_law_rounds" (spRounds K) := by
  refine cal_of T.d_law_rounds sc_law_rounds (fun vs H Q E h => ?_) (fun f cdv A outer s H vs Q E hr h => ?_)
  · obtain ⟨p, most, rfl, _⟩ := h
    rfl
  · obtain ⟨p, most, rfl, pot, hmost, kk⟩ := h
    refine ⟨_, (pss_cons (ps_set (i := 2) sc_law_rounds.nd rfl (Or.inl rfl) pe_dnewK)
      (pss_cons (ps_set (i := 3) sc_law_rounds.nd rfl (Or.inl rfl) (pe_c (ok_law_take T) hr (by decide) (by rfl) (pa_cons (pv 0) (pa_cons pe_int pa_nil))))
      (pss_cons (ps_for PassesOwn.never (by rfl) (pi_list (pe_c (ok_law_names T) hr (by decide) (by rfl) (pa_cons (pv 0) (pa_cons (pe_c (ok_law_take T) hr (by decide) (by rfl) (pa_cons (pv 0) (pa_cons (pe_op op_add (pv 1) pe_int) pa_nil))) pa_nil)))) (pg_name (i := 4) sc_law_rounds.nd rfl (Or.inl rfl)) (pss_cons (ps_expr (pe_c (ok_law_more T) hr (by decide) (by rfl) (pa_cons (pv 0) (pa_cons (pv 2) (pa_cons (pv 4) pa_nil)))))
      (pss_one (ps_for PassesOwn.never (by rfl) (pi_range1 (by rfl) T.n_range (pa_cons (pv 3) pa_nil)) (pg_name (i := 5) sc_law_rounds.nd rfl (Or.inl rfl)) (pss_one (ps_expr (pe_c (ok_law_tie T) hr (by decide) (by rfl) (pa_cons (pv 0) (pa_cons (pv 2) pa_nil)))))))))
      (pss_cons (ps_for PassesOwn.never (by rfl) (pi_range1 (by rfl) T.n_range (pa_cons (pe_ix (ix_listK (K := K)) (pe_lst (pa_cons pe_int (pa_cons pe_int (pa_cons pe_int pa_nil)))) (pe_c (ok_law_take T) hr (by decide) (by rfl) (pa_cons (pv 0) (pa_cons pe_int pa_nil))) (fun _ _ => rfl)) pa_nil)) (pg_name (i := 5) sc_law_rounds.nd rfl (Or.inl rfl)) (pss_one (ps_expr (pe_c (ok_law_tie T) hr (by decide) (by rfl) (pa_cons (pv 0) (pa_cons (pv 2) pa_nil))))))
      (pss_one (ps_ret (pv 2))))))), ?_⟩
    intro d hd
    have ndp : d ≠ p := fun e => pot.ne (by rw [← e]; exact hd)
    have s0 : Same H (upd H d (.dK [])) := .new hd
    refine ⟨_, rfl, p, 4, rfl, pot.same s0, by decide, by decide, fun th H1 ht0 ht1 d1 => ?_⟩
    have dr1 : Dr p H H1 := ((Dr.refl pot).same s0).trans d1
    have hd1 : H1 d = some (.dK []) := d1.get ndp upd_same
    refine ⟨_, rfl, _, rfl, _, rfl, _, _, rfl, rfl, p, _, rfl, d1.pot, by omega, by omega, fun n H2 hn0 hn1 d2 => ?_⟩
    obtain ⟨n, rfl⟩ : ∃ m : Nat, n = (m : Int) := ⟨n.toNat, by omega⟩
    have dr2 := dr1.trans d2
    have hd2 : H2 d = some (.dK []) := d2.get ndp hd1
    refine ⟨p, n, rfl, d2.pot, by omega, fun ln names H3 d3 hln hlnv hnl hnn hnm => ?_⟩
    have dr3 := dr2.trans d3
    have hd3 : H3 d = some (.dK []) := d3.get ndp hd2
    have nlp : ln ≠ p := d2.ne hln
    have nld : ln ≠ d := fun e => by rw [e, hd2] at hln; cases hln
    have fin : ∀ {H' : Hp}, D2 p d H3 H' → Dr p H H' := fun {H'} a => ⟨fun b o e => by
      obtain ⟨q1, q2⟩ := wo_get e
      exact a.get (ne_of_none q1 hd) (by simpa using q2) (dr3.s _ _ e), a.pot⟩
    have hth : th.toNat < 4 := by omega
    refine ⟨ln, rfl, ⟨_, SqL.of hlnv⟩, for_list (K := K) (a := ln) (xs := names.map V.str) (fun i σ H' => ∃ (y1 y2 : Option V) (W : List Row), σ = [some (.ref p), some (.int most), some (.ref d), some (.int th), y1, y2] ∧ D2 p d H3 H' ∧ GD K p d H' W ∧ vsf W = names.take i ∧ Pl (vsf W) (rdf W)) ?_ ?_ ?_ ?_⟩
    · exact ⟨_, _, [], rfl, .refl d3.pot, ⟨[], hd3, .nil⟩, rfl, Pl.nil⟩
    · rintro i σ H' _ ⟨y1, y2, W, _, a, _⟩
      exact SqL.of (a.get nld nlp hlnv)
    · rintro i v σ H' hi ⟨y1, y2, W, rfl, a, hg, hv, pl⟩
      obtain ⟨nm, hnmi, rfl⟩ := item_str hi
      have hil : i < names.length := (List.getElem?_eq_some_iff.mp hnmi).1
      have hWl : W.length = i := by
        have := congrArg List.length hv
        rw [List.length_map, List.length_take] at this
        omega
      have hnW : nm ∉ vsf W := by
        rw [hv]
        intro q
        obtain ⟨k, hk, e⟩ := List.mem_take_iff_getElem.mp q
        have := idx_uniq' hnn (i := k) (j := i) (x := nm) (by rw [List.getElem?_eq_getElem (by omega), e]) hnmi
        omega
      refine ⟨_, rfl, _, rfl, _, rfl, p, d, W, nm, rfl, hg, a.pot, ndp, by omega, hnW, pl, fun H4 W4 a4 hg4 hv4 pl4 => ?_⟩
      have hv4' : vsf W4 = names.take (i + 1) := by rw [hv4, hv, List.take_add_one, hnmi]; rfl
      have hWl4 : W4.length ≤ 60 := by
        have := congrArg List.length hv4'
        rw [List.length_map, List.length_take] at this
        omega
      refine ⟨_, rfl, th, rfl, by omega, by omega, for_range (lo := 0) (n := th.toNat) (fun j σ H' => ∃ (y2 : Option V) (W : List Row), σ = [some (.ref p), some (.int most), some (.ref d), some (.int th), some (.str nm), y2] ∧ D2 p d H3 H' ∧ GD K p d H' W ∧ vsf W = names.take (i + 1) ∧ Pl (vsf W) (rdf W)) ?_ ?_ ?_⟩
      · exact ⟨_, W4, rfl, a.trans a4, hg4, hv4', pl4⟩
      · rintro j σ H5 hj ⟨y2, W5, rfl, a5, hg5, hv5, pl5⟩
        have hWl5 : W5.length ≤ 60 := by
          have := congrArg List.length hv5
          rw [List.length_map, List.length_take] at this
          omega
        exact ⟨_, rfl, _, rfl, p, d, W5, rfl, hg5, a5.pot, ndp, hWl5, pl5, fun H6 W6 a6 hg6 hv6 pl6 => ⟨_, W6, rfl, a5.trans a6, hg6, hv6.trans hv5, pl6⟩⟩
      · rintro σ H5 ⟨y2, W5, rfl, a5, hg5, hv5, pl5⟩
        exact ⟨_, _, W5, rfl, a5, hg5, hv5, pl5⟩
    · rintro σ H' ⟨y1, y2, W, rfl, a, hg, hv, pl⟩
      rw [List.length_map, List.take_length] at hv
      refine ⟨by show 3 ≤ sizeLine; decide, fun c hc => ⟨_, rfl, p, 3, rfl, a.pot.same (.new hc), by decide, by decide, fun dg H4 hd0 hd1' d4 => ?_⟩⟩
      have ncp : c ≠ p := fun e => a.pot.ne (by rw [← e]; exact hc)
      have hc4 : H4 c = some (.lst (([0, 8, 30] : List Int).map V.int)) := d4.get ncp (by rw [upd_same]; rfl)
      have a4 : D2 p d H3 H4 := (a.same (.new hc)).dr d4
      have hg4 := (hg.same (.new hc)).dr ndp d4
      obtain ⟨m, hm, hm0, hm7⟩ : ∃ m : Int, ([0, 8, 30] : List Int)[dg.toNat]? = some m ∧ 0 ≤ m ∧ m ≤ 30 := by
        have hcs : dg.toNat = 0 ∨ dg.toNat = 1 ∨ dg.toNat = 2 := by omega
        rcases hcs with e | e | e <;> rw [e]
        · exact ⟨0, rfl, by omega, by omega⟩
        · exact ⟨8, rfl, by omega, by omega⟩
        · exact ⟨30, rfl, by omega, by omega⟩
      refine ⟨c, _, _, .int m, rfl, rfl, SqL.of hc4, at_map V.int (j := dg.toNat) (by omega) hm, m, rfl, by omega, by omega, for_range (lo := 0) (n := m.toNat) (fun j σ H' => ∃ (y1 y2 : Option V) (W : List Row), σ = [some (.ref p), some (.int most), some (.ref d), some (.int th), y1, y2] ∧ D2 p d H3 H' ∧ GD K p d H' W ∧ vsf W = names ∧ Pl (vsf W) (rdf W)) ?_ ?_ ?_⟩
      · exact ⟨_, _, W, rfl, a4, hg4, hv, pl⟩
      · rintro j σ H5 hj ⟨y1, y2, W5, rfl, a5, hg5, hv5, pl5⟩
        have hWl5 : W5.length ≤ 60 := by
          have := congrArg List.length hv5
          rw [List.length_map] at this
          omega
        exact ⟨_, rfl, _, rfl, p, d, W5, rfl, hg5, a5.pot, ndp, hWl5, pl5, fun H6 W6 a6 hg6 hv6 pl6 => ⟨_, _, W6, rfl, a5.trans a6, hg6, hv6.trans hv5, pl6⟩⟩
      · rintro σ H5 ⟨y1, y2, W5, rfl, a5, hg5, hv5, pl5⟩
        have hWl5 : W5.length = names.length := by
          have := congrArg List.length hv5
          rwa [List.length_map] at this
        exact ⟨_, rfl, kk d W5 H5 (fin a5) hd ndp hg5 pl5 (fun v hv' => hnm v (by rw [← hv5]; exact hv')) (by omega)⟩
end
end Five
end
section
namespace Five
open PySem PySem.Spec PyProof.Rows L2
open PySem.W (Datum DatumOrd)
section
variable {P : Program} {w : World} {K : PySem.W.Frag} {mg : Str → Option Value} {base : Heap} {C : Addr} {cx : Nat → Addr}
theorem paired_td {α : Type} {R : Addr → α → Prop} {as : List Addr} {xs : List α} (h : Paired R as xs) : ∀ n : Nat, Paired R (as.take n) (xs.take n) ∧ Paired R (as.drop n) (xs.drop n) := by
  induction h with
  | nil => intro n; simp; exact .nil
  | cons r t ih =>
    intro n
    cases n with
    | zero => exact ⟨.nil, .cons r t⟩
    | succ n => exact ⟨.cons r (ih n).1, (ih n).2⟩
def spWebL (K : PySem.W.Frag) (C : Addr) : Sp := fun vs H Q _ => ∃ (p d : Addr) (W : List Row), vs = [.ref p, .ref d] ∧ GD K p d H W ∧ PotAt H p ∧ d ≠ p ∧ W.length ≤ 60 ∧ Pl (vsf W) (rdf W) ∧ (∀ v ∈ vsf W, Nm v) ∧
  ∀ (x : Addr) (rows : List Row) (H' : Hp), Dr p H H' → H x = none → WebAt K C (wo H' [p]) x (webRows rows) → RowsOk rows → Rot rows W → Q (.ref x) H'
theorem ok_law_web (T : Txt K mg C cx) : Cal P w K mg base 7 "_law_web" (spWebL K C) := by
  refine cal_of T.d_law_web sc_law_web (fun vs H Q E h => ?_) (fun f cdv A outer s H vs Q E hr h => ?_)
  · obtain ⟨p, d, W, rfl, _⟩ := h
    rfl
  · obtain ⟨p, d, W, rfl, hg, pot, ndp, hlen, pl, hnm, kk⟩ := h
    refine ⟨_, (pss_cons (ps_set (i := 2) sc_law_web.nd rfl (Or.inl rfl) (pe_lst pa_nil))
      (pss_cons (ps_lock (ps_for PassesOwn.never (by rfl) (pi_keys (pv 1)) (pg_name (i := 3) sc_law_web.nd rfl (Or.inl rfl)) (pss_cons (ps_set (i := 4) sc_law_web.nd rfl (Or.inl rfl) (pe_dget (hu_of hr) (pv 1) (pv 3) (fun _ _ => rfl)))
      (pss_cons (ps_set (i := 5) sc_law_web.nd rfl (Or.inl rfl) (pe_c (ok_law_take T) hr (by decide) (by rfl) (pa_cons (pv 0) (pa_cons (pe_op op_add (pe_callB (call_lenK (K := K)) (by rfl) T.n_len (by decide +kernel) (pa_cons (pv 4) pa_nil)) pe_int) pa_nil))))
      (pss_one (ps_expr (pe_bm PySem.F.plainAttrs_list PySem.F.slot_list_insert PySem.F.type_list_insert mt_insert (pv 2) (pa_cons (pe_c (ok_law_take T) hr (by decide) (by rfl) (pa_cons (pv 0) (pa_cons (pe_op op_add (pe_callB (call_lenK (K := K)) (by rfl) T.n_len (by decide +kernel) (pa_cons (pv 2) pa_nil)) pe_int) pa_nil))) (pa_cons (pe_tup (pa_cons (pv 3) (pa_cons (pe_op op_cat (pe_slice (sl_listK (K := K)) (pv 4) (po_some (pv 5)) po_none) (pe_slice (sl_listK (K := K)) (pv 4) po_none (po_some (pv 5)))) pa_nil))) pa_nil)))))))))
      (pss_one (ps_ret (pe_mk (ok_Web T) hr (by decide) (by rfl) (pa_cons (pv 2) pa_nil)))))), ?_⟩
    have hvl : (vsf W).length ≤ 60 := by rw [List.length_map]; exact hlen
    have hrl : ∀ v ∈ vsf W, (rdf W v).length ≤ 60 := fun v hv => Nat.le_trans (nodup_le (pl.wf.rn v hv) fun u hu => (pl.wf.ties v hv u hu).1) hvl
    refine ⟨Nat.zero_le _, fun rl hrl0 => ?_⟩
    have s0 : Same H (upd H rl (.lst [])) := .new hrl0
    have nrp : rl ≠ p := fun e => pot.ne (by rw [← e]; exact hrl0)
    have nrd : rl ≠ d := fun e => hg.ne (by rw [← e]; exact hrl0)
    obtain ⟨kvs, hk1, hkP⟩ := id hg
    have hk0 := s0 _ _ hk1
    refine ⟨d, .dK kvs, hk0, trivial, fun od => ?_⟩
    have hrlL : upd (upd H rl (.lst [])) d (.frz od (.dK kvs)) rl = some (.lst []) := by rw [upd_ne nrd, upd_same]
    have hkL : Paired (RowKV K (wo (upd (upd H rl (.lst [])) d (.frz od (.dK kvs))) [rl, d, p])) kvs W := by
      refine Paired.mapP hkP fun _ _ q => rowKV_up (Same.sm fun b o e => ?_) q
      obtain ⟨q1, q2⟩ := wo_get e
      have nb : b ≠ rl := ne_of_none q1 hrl0
      simp at q2
      rw [wo_out (by simp [nb, q2.1, q2.2]), upd_ne q2.1, upd_ne nb]
      exact q1
    have hdL : upd (upd H rl (.lst [])) d (.frz od (.dK kvs)) d = some (.frz od (.dK kvs)) := upd_same
    have potL : PotAt (upd (upd H rl (.lst [])) d (.frz od (.dK kvs))) p := (pot.same s0).eq (upd_ne ndp.symm)
    have back : ∀ {H' : Hp}, Dr p (upd (upd H rl (.lst [])) d (.frz od (.dK kvs))) H' ∨ Same (wo (upd (upd H rl (.lst [])) d (.frz od (.dK kvs))) [rl, p]) H' → ∀ b o, b ≠ d → b ≠ p → H b = some o → H' b = some o := fun {H'} a b o n1 n2 e => by
      have nb : b ≠ rl := ne_of_none e hrl0
      have eb : upd (upd H rl (.lst [])) d (.frz od (.dK kvs)) b = some o := by rw [upd_ne n1, upd_ne nb]; exact e
      rcases a with a | a
      · exact a.get n2 eb
      · exact a _ _ (by rw [wo_out (by simp [nb, n2])]; exact eb)
    generalize upd (upd H rl (.lst [])) d (.frz od (.dK kvs)) = HL at *
    refine ⟨_, rfl, d, od, rfl, .inl ⟨kvs, hdL, ?_⟩⟩
    have hkl : kvs.length = W.length := Paired.length hkP
    refine for_it (walk_keys (d := d) (o := od) (kvs := kvs)) (fun i σ H' => ∃ (y1 y2 y3 : Option V) (ts : List Addr) (rws : List Row), σ = [some (.ref p), some (.ref d), some (.ref rl), y1, y2, y3] ∧ Same (wo HL [rl, p]) H' ∧ PotAt H' p ∧ H' rl = some (.lst (ts.map V.ref)) ∧ Paired (RowT K (wo H' [rl, p])) ts rws ∧ Rot rws (W.take i)) ?_ ?_ ?_ ?_
    · exact ⟨_, _, _, [], [], rfl, wo_same, potL, hrlL, .nil, [], .refl _, .nil⟩
    · rintro i σ H' _ ⟨y1, y2, y3, ts, rws, _, a, _⟩
      exact a _ _ (by rw [wo_out (by simp [nrd.symm, ndp])]; exact hdL)
    · rintro i v σ H' H'' hi ⟨y1, y2, y3, ts, rws, rfl, a, pot', hL, hP, hrot⟩ ⟨rfl, k0, v0, hk0', rfl⟩
      obtain ⟨r, hr, e1, ra, e2, e3⟩ := paired_get hkL i (k0, v0) hk0'
      simp only at e1 e2
      subst e1
      subst e2
      have hrm : r ∈ W := List.mem_of_getElem? hr
      have hrv : r.1 ∈ vsf W := List.mem_map.mpr ⟨r, hrm, rfl⟩
      have er : rdf W r.1 = r.2 := rdf_of pl.wf.nd hrm
      have hrl1 : r.2.length ≤ 60 := by rw [← er]; exact hrl _ hrv
      have hi60 : i < W.length := (List.getElem?_eq_some_iff.mp hr).1
      have htl : ts.length = i := by
        rw [Paired.length hP]
        have := hrot.vs.length_eq
        rw [List.length_map, List.length_map, List.length_take] at this
        omega
      have hd'' : H'' d = some (.frz od (.dK kvs)) := a _ _ (by rw [wo_out (by simp [nrd.symm, ndp])]; exact hdL)
      have lsup : ∀ {G : Hp}, (∀ b o, b ≠ rl → b ≠ p → H'' b = some o → G b = some o) → LS K G ra r.2 := fun {G} f => by
        exact up (R := LS K) (fun b o e => by
          obtain ⟨q1, q2⟩ := wo_get e
          simp at q2
          exact f b o q2.1 q2.2.2 (a _ _ (by rw [wo_out (by simp [q2.1, q2.2.2])]; exact q1))) e3
      have ndrl : d ≠ rl := nrd.symm
      have dget : ∀ {G : Hp}, (∀ b o, b ≠ rl → b ≠ p → H'' b = some o → G b = some o) → DGet G d (.str r.1) (some (.ref ra)) := fun {G} f => by
        obtain ⟨ra', z1, z2⟩ := rowKV_get hkL hrv
        have : ra' = ra := by
          have hv1 := valV_at (rds_keys hkL) pl.wf.nd hk0'
          rw [z1] at hv1
          exact V.ref.inj (Option.some.inj hv1)
        subst this
        exact .inl ⟨kvs, Sum.inr r.1, .inr ⟨od, f _ _ ndrl ndp hd''⟩, rfl, z1.symm⟩
      refine ⟨_, rfl, _, rfl, d, _, rfl, dget fun _ _ _ _ e => e, ?_⟩
      refine ⟨_, rfl, _, rfl, ra, _, rfl, .inl (lsup fun _ _ _ _ e => e), _, _, rfl, rfl, p, _, rfl, pot', by omega, by rw [List.length_map]; omega, fun far H1 hf0 hf1 d1 => ?_⟩
      obtain ⟨fj, rfl⟩ : ∃ fj : Nat, far = (fj : Int) := ⟨far.toNat, by omega⟩
      have hL1 : H1 rl = some (.lst (ts.map V.ref)) := d1.get nrp hL
      refine ⟨_, rfl, .inl ⟨rfl, _, SqL.of hL1⟩, _, rfl, _, rfl, rl, _, rfl, .inl (SqL.of hL1), _, _, rfl, rfl, p, _, rfl, d1.pot, by omega, by rw [List.length_map]; omega, fun jx H2 hj0 hj1 d2 => ?_⟩
      rw [List.length_map] at hj1
      have hL2 : H2 rl = some (.lst (ts.map V.ref)) := d2.get nrp hL1
      have f2 : ∀ b o, b ≠ rl → b ≠ p → H'' b = some o → H2 b = some o := fun b o _ n2 e => d2.get n2 (d1.get n2 e)
      have ls2 := lsup f2
      refine ⟨_, rfl, _, rfl, _, rfl, _, rfl, ra, _, rfl, ls2, fun c1 hc1 => ⟨_, rfl, _, rfl, _, rfl, ra, _, rfl, (Same.new hc1).seq ls2, fun c2 hc2 => ⟨c1, c2, _, _, rfl, rfl, Same.new hc2 _ _ upd_same, upd_same, ?_, fun c3 hc3 => ⟨by show 2 ≤ sizeLine; decide, fun t ht => ?_⟩⟩⟩⟩
      · rw [cut_from, cut_to, List.length_drop, List.length_take, List.length_map]
        exact Nat.le_trans (show _ ≤ 60 + 60 by omega) (by decide)
      have s5 := ((Same.new (o := .lst (cutV (r.2.map V.str) (some (fj : Int)) none)) hc1).trans (.new (o := .lst (cutV (r.2.map V.str) none (some (fj : Int)))) hc2)).trans (.new (o := .lst (cutV (r.2.map V.str) (some (fj : Int)) none ++ cutV (r.2.map V.str) none (some (fj : Int)))) hc3)
      have s6 := s5.trans (.new (o := .tup [.str r.1, .ref c3]) ht)
      have al2 : Al [rl, p] H2 := fun m hm => by
        rcases List.mem_cons.mp hm with e | e
        · rw [e, hL2]; simp
        · rw [List.mem_singleton.mp e]; exact d2.pot.ne
      have hc30 : c3 ∉ [rl, p] := (al2.same ((Same.new hc1).trans (.new hc2))).fresh hc3
      refine ⟨rl, _, jx, _, rfl, rfl, s6 _ _ hL2, ?_, hj0, by omega, ?_⟩
      · rw [List.length_map, htl]
        exact Nat.lt_of_lt_of_le hi60 (Nat.le_trans hlen (by decide))
      · have e9 : (ts.map V.ref).take jx.toNat ++ [V.ref t] ++ (ts.map V.ref).drop jx.toNat = (ts.take jx.toNat ++ [t] ++ ts.drop jx.toNat).map V.ref := by
          rw [List.map_append, List.map_append, List.map_take, List.map_drop]; rfl
        have hP2 : Paired (RowT K (wo H2 [rl, p])) ts rws := Paired.mapP hP fun _ _ q => up (R := RowT K) (fun b o e => by
          obtain ⟨q1, q2⟩ := wo_get e
          rw [wo_out q2]
          simp at q2
          exact f2 b o q2.1 q2.2 q1) q
        refine ⟨_, _, _, ts.take jx.toNat ++ [t] ++ ts.drop jx.toNat, rws.take jx.toNat ++ [(r.1, r.2.drop fj ++ r.2.take fj)] ++ rws.drop jx.toNat, rfl, fun b o e => ?_, (d2.pot.same s6).eq (upd_ne nrp.symm), by rw [upd_same, e9], ?_, ?_⟩
        · obtain ⟨q1, q2⟩ := wo_get e
          simp at q2
          rw [upd_ne q2.1]
          exact s6 _ _ (f2 b o q2.1 q2.2 (a _ _ e))
        · rw [wo_mut (by simp)]
          have hPs := ups s6 hP2
          have hrow : RowT K (wo (upd (upd (upd (upd H2 c1 (.lst (cutV (r.2.map V.str) (some (fj : Int)) none))) c2 (.lst (cutV (r.2.map V.str) none (some (fj : Int))))) c3 (.lst (cutV (r.2.map V.str) (some (fj : Int)) none ++ cutV (r.2.map V.str) none (some (fj : Int))))) t (.tup [.str r.1, .ref c3])) [rl, p]) t (r.1, r.2.drop fj ++ r.2.take fj) := by
            refine RowT.of upd_same ((al2.same s5).fresh ht) ?_ hc30
            refine Same.new ht _ _ ?_
            rw [upd_same, cut_from, cut_to, List.map_append, List.map_drop, List.map_take]
          exact paired_app (paired_app (paired_td hPs jx.toNat).1 (.cons hrow .nil)) (paired_td hPs jx.toNat).2
        · rw [take_snoc hr]
          exact hrot.ins (a := (r.1, r.2.drop fj ++ r.2.take fj)) (b := r) ⟨rfl, r.2.take fj, r.2.drop fj, (List.take_append_drop _ _).symm, rfl⟩ _
    · rintro σ H' ⟨y1, y2, y3, ts, rws, rfl, a, pot', hL, hP, hrot⟩
      have hdH : H' d = some (.frz od (.dK kvs)) := a _ _ (by rw [wo_out (by simp [nrd.symm, ndp])]; exact hdL)
      rw [hkl, List.take_length] at hrot
      have ok := hrot.ok pl hnm hlen
      refine ⟨hdH, ?_⟩
      have dr2 : Dr p H (upd H' d (.dK kvs)) := by
        refine ⟨fun b o e => ?_, pot'.eq (upd_ne ndp.symm)⟩
        obtain ⟨q1, q2⟩ := wo_get e
        by_cases n : b = d
        · rw [n, upd_same]
          rw [n, hk1] at q1
          exact q1
        · rw [upd_ne n]
          exact back (.inr a) b o n (by simpa using q2) q1
      have hL2 : upd H' d (.dK kvs) rl = some (.lst (ts.map V.ref)) := by rw [upd_ne nrd]; exact hL
      have hP2 : Paired (RowT K (wo (upd H' d (.dK kvs)) [p])) ts rws := Paired.mapP hP fun t r ⟨b, q1, q2⟩ => by
        obtain ⟨z1, z2⟩ := wo_get q1
        obtain ⟨z3, z4⟩ := wo_get q2
        have n1 : t ≠ d := fun e => by rw [e, hdH] at z1; cases z1
        have n2 : b ≠ d := fun e => by rw [e, hdH] at z3; cases z3
        simp at z2 z4
        exact ⟨b, by rw [wo_out (by simp [z2.2]), upd_ne n1]; exact z1, by rw [wo_out (by simp [z4.2]), upd_ne n2]; exact z3⟩
      generalize upd H' d (.dK kvs) = H2 at *
      have alp2 : Al [p] H2 := fun m hm => by rw [List.mem_singleton.mp hm]; exact dr2.pot.ne
      have hrows : LR K (RowT K) (wo H2 [p]) rl rws := ⟨ts, .inl (.inl (by rw [wo_out (by simpa using nrp)]; exact hL2)), hP2⟩
      refine ⟨_, rfl, fun x dx hx hdx ne => ?_⟩
      have sN : Same H2 (upd (upd H2 dx (.own x)) x (.ins C dx [])) := (Same.new hdx).trans (.new (by rw [upd_ne ne.symm]; exact hx))
      have hxn : upd (upd H2 dx (.own x)) x (.ins C dx []) x = some (.ins C dx []) := upd_same
      generalize upd (upd H2 dx (.own x)) x (.ins C dx []) = HN at *
      refine ⟨[p], x, dx, rl, rws, rfl, hxn, alp2.same sN, up (wo_ext1 sN hx) hrows, ok, fun H3 d' kvs' s3 h1 h2 h3 h4 => ⟨rfl, ?_⟩⟩
      have s23 : Same H2 H3 := fun q o e => s3 _ _ (by rw [wo_out fun z => ne_of_none e hx (by simpa using z)]; exact sN _ _ e)
      have hd2 : H2 d' = none := sN.free h2
      refine kk x rws H3 (dr2.same s23) (dr2.free hx) ?_ ok hrot
      refine ⟨dx, d', kvs', by rw [wo_out (alp2.fresh hx)]; exact h1, by rw [wo_out (alp2.fresh hd2)]; exact h3, Paired.mapP h4 fun _ _ q => rowKV_up (Same.sm fun b o e => ?_) q⟩
      obtain ⟨q1, q2⟩ := nw_get e
      rw [wo_out ((alp2.same sN).fresh q1)]
      exact q2
end
end Five
end
section
namespace Five
open PySem PySem.Spec PyProof.Rows L2
def isCh : PyData → Bool
  | .tuple [.str _, .list _] => true
  | _ => false
section
variable {P : Program} {w : World} {K : PySem.W.Frag} {mg : Str → Option Value} {base : Heap} {C : Addr} {cx : Nat → Addr}
def spIsCho (K : PySem.W.Frag) : Sp := fun vs H Q _ => ∃ (v : V) (e : PyData) (n : Nat), vs = [v] ∧ Dp K H v e ∧ Wy n e ∧ Q (.bl (isCh e)) H
theorem ok_law_is_choice (T : Txt K mg C cx) : Cal P w K mg base 1 "_law_is_choice" (spIsCho K) := by
  refine cal_of T.d_law_is_choice sc_law_is_choice (fun vs H Q E h => ?_) (fun f cdv A outer s H vs Q E hr h => ?_)
  · obtain ⟨v, e, n, rfl, _⟩ := h
    rfl
  · obtain ⟨v, e, n, rfl, hd, hw, k⟩ := h
    refine ⟨_, (pss_cons (ps_if (PW.pt (pw_or (pt_not (pt_val (pe_callB (call_isiK' (K := K)) (by rfl) T.n_isinstance (by decide +kernel) (pa_cons (pv 0) (pa_cons (pe_bltn (v := .ty "tuple") (by rfl) T.n_tuple (by decide +kernel) rfl) pa_nil))))) (pw_or (pt_cmpR op_ne (pe_callB (call_lenK (K := K)) (by rfl) T.n_len (by decide +kernel) (pa_cons (pv 0) pa_nil)) pe_int (nomark _)) (pw_or1 (pt_not (pt_val (pe_callB (call_isiK' (K := K)) (by rfl) T.n_isinstance (by decide +kernel) (pa_cons (pe_ix (ix_tupK (K := K)) (pv 0) pe_int (fun _ _ => rfl)) (pa_cons (pe_bltn (v := .ty "str") (by rfl) T.n_str (by decide +kernel) rfl) pa_nil))))))))) (pss_one (ps_ret pe_bl)) pss_nil)
      (pss_one (ps_ret (pe_callB (call_isiK' (K := K)) (by rfl) T.n_isinstance (by decide +kernel) (pa_cons (pe_ix (ix_tupK (K := K)) (pv 0) pe_int (fun _ _ => rfl)) (pa_cons (pe_bltn (v := .ty "list") (by rfl) T.n_list (by decide +kernel) rfl) pa_nil)))))), ?_⟩
    rcases hw.alt with ⟨o, ho, rfl⟩ | ⟨m, _, p, ws, hp, rfl, _, _⟩
    · obtain ⟨t, rfl, ht⟩ := dp_td hd
      refine ⟨_, rfl, .ref t, .ty "tuple", _, _, true, rfl, .ty "tuple", sqT_ty ht, kit_ty (by decide +kernel), _, rfl, iteF ?_⟩
      refine ⟨_, rfl, t, _, rfl, .inr ht, rfl, _, rfl, iteNS rfl ?_⟩
      refine ⟨_, rfl, t, _, 0, _, rfl, rfl, ht, rfl, _, .ty "str", _, _, true, rfl, .ty "str", .base (.str _), kit_ty (by decide +kernel), _, rfl, iteF ?_⟩
      exact ⟨_, rfl, t, _, 1, _, rfl, rfl, ht, rfl, _, .ty "list", _, _, false, rfl, .ty "list", .base (.str _), kit_ty (by decide +kernel), k⟩
    · obtain ⟨t, l, xs, rfl, ht, hl, hds⟩ := dp_ch hd
      refine ⟨_, rfl, .ref t, .ty "tuple", _, _, true, rfl, .ty "tuple", sqT_ty ht, kit_ty (by decide +kernel), _, rfl, iteF ?_⟩
      refine ⟨_, rfl, t, _, rfl, .inr ht, rfl, _, rfl, iteNS rfl ?_⟩
      refine ⟨_, rfl, t, _, 0, _, rfl, rfl, ht, rfl, _, .ty "str", _, _, true, rfl, .ty "str", .base (.str _), kit_ty (by decide +kernel), _, rfl, iteF ?_⟩
      exact ⟨_, rfl, t, _, 1, _, rfl, rfl, ht, rfl, _, .ty "list", _, _, true, rfl, .ty "list", sqL_ty hl, kit_ty (by decide +kernel), k⟩
end
end Five
end
section
namespace Five
open PySem PySem.Spec PyProof.Rows L2
section
variable {P : Program} {w : World} {K : PySem.W.Frag} {mg : Str → Option Value} {base : Heap} {C : Addr} {cx : Nat → Addr}
def spReadW (K : PySem.W.Frag) (C : Addr) : Nat → Sp
  | 0 => fun _ _ _ _ => False
  | n + 1 => fun vs H Q _ => ∃ (x la dc : Addr) (v : V) (R : List Row) (L : List (Str × List Int)) (hv : List (Str × Int)) (e : PyData), vs = [.ref x, .ref la, v, .ref dc] ∧ WebAt K C H x R ∧ LisAt K H la L ∧ (∀ p, p ∈ L.map (·.1) ↔ p ∈ vsf R) ∧
    Dp K H v e ∧ Cw n e ∧ HuAt H dc hv ∧ hv.length + n ≤ 100 ∧ ∀ H', Same H H' → Q (.bl (readF (rdf R) (vsf R) (lsF L) (n + 1) hv e)) H'
theorem okR_is_read_within (T : Txt K mg C cx) (n : Nat) : Cal P w K mg base (n + 1) "is_read_within" (spReadW K C n) := by
  induction n with
  | zero => exact cal_of T.d_is_read_within sc_is_read_within (fun vs H Q E h => h.elim) (fun f cdv A outer s H vs Q E hr h => h.elim)
  | succ n ih =>
    have ok_is_read_within := fun _ : Txt K mg C cx => ih
    refine cal_of T.d_is_read_within sc_is_read_within (fun vs H Q E h => ?_) (fun f cdv A outer s H vs Q E hr h => ?_)
    · obtain ⟨x, la, dc, v, R, L, hv, e, rfl, _⟩ := h
      rfl
    · obtain ⟨x, la, dc, v, R, L, hv, e, rfl, hx, hL, hLk, hd, ⟨p, ws, hp, rfl, hl3, hws⟩, hh, hln, k⟩ := h
      refine ⟨_, (pss_cons (ps_asg (pv 2) (pg_tupK (K := K) 2 (by rfl) (pgs_cons (pg_name (i := 4) sc_is_read_within.nd rfl (Or.inl rfl)) (pgs_cons (pg_name (i := 5) sc_is_read_within.nd rfl (Or.inl rfl)) pgs_nil))))
      (pss_cons (ps_if (PW.pt (pw_or (pt_cmp (pc_dnotin (hu_of hr) (pv 4) (pv 1))) (pw_or (pt_cmp (pc_din (hu_of hr) (pv 4) (pv 3))) (pw_or1 (pt_cmpR (op_neK (K := K) (List Int) hr.units) (pe_lc (own := [("hue", 6), ("why", 7)]) (by rfl) sc_is_read_within.nd (pi_list (pv 5)) (blkOk_by (own := [("hue", 6), ("why", 7)]) (N := N_is_read_within) (sc := defScope s_is_read_within) (by decide +kernel)) (fun _ _ _ _ _ => (pg_tupK (K := K) 2 (by rfl) (pgs_cons (pg_name (i := 6) sc_is_read_within.nd rfl (Or.inl rfl)) (pgs_cons (pg_name (i := 7) sc_is_read_within.nd rfl (Or.inl rfl)) pgs_nil)))) (fun _ _ _ _ _ => pts_nil) (fun _ _ _ _ _ => (pv 6))) (pe_dget (hu_of hr) (pv 1) (pv 4) (fun _ _ => rfl)) (nomark _)))))) (pss_one (ps_ret pe_bl)) pss_nil)
      (pss_cons (ps_for PassesOwn.never (by rfl) (pi_list (pv 5)) (pg_tupK (K := K) 2 (by rfl) (pgs_cons (pg_name (i := 6) sc_is_read_within.nd rfl (Or.inl rfl)) (pgs_cons (pg_name (i := 7) sc_is_read_within.nd rfl (Or.inl rfl)) pgs_nil))) (pss_one (ps_if (PW.pt (pw_and (pt_cmpR op_eq (pe_ix (ix_tupK (K := K)) (pv 7) pe_int (fun _ _ => rfl)) (pe_gc (by rfl) T.g_TIED) (nomark _)) (pw_and1 (pt_not (pt_val (pe_callB (call_isiK' (K := K)) (by rfl) T.n_isinstance (by decide +kernel) (pa_cons (pe_ix (ix_tupK (K := K)) (pv 7) pe_int (fun _ _ => rfl)) (pa_cons (pe_bltn (v := .ty "list") (by rfl) T.n_list (by decide +kernel) rfl) pa_nil)))))))) (pss_one (ps_if (PW.pt (pw_or (pt_not (pt_val (pe_mt (ok_Web_is_tied T) hr (by omega) (pv 0) (pa_cons (pv 4) (pa_cons (pe_ix (ix_tupK (K := K)) (pv 7) pe_int (fun _ _ => rfl)) pa_nil))))) (pw_or1 (pt_cmpR op_ne (pe_dget1 (hu_of hr) (pv 3) (pe_ix (ix_tupK (K := K)) (pv 7) pe_int (fun _ _ => rfl)) ⟨rfl, rfl, rfl, rfl⟩) (pv 6) (nomark _))))) (pss_one (ps_ret pe_bl)) pss_nil)) (pss_cons (ps_set (i := 8) sc_is_read_within.nd rfl (Or.inl rfl) (pe_callTy call_dictD (by rfl) T.n_dict (by decide +kernel) (pa_cons (pv 3) pa_nil)))
      (pss_cons (ps_dput (hu_of hr) (pv 8) (pv 4) (pv 6) rfl)
      (pss_one (ps_if (pt_not (pt_val (pe_c (ok_is_read_within T) hr (by omega) (by rfl) (pa_cons (pv 0) (pa_cons (pv 1) (pa_cons (pv 7) (pa_cons (pv 8) pa_nil))))))) (pss_one (ps_ret pe_bl)) pss_nil)))))))
      (pss_one (ps_ret pe_bl))))), ?_⟩
      obtain ⟨t, l, xs, rfl, ht, hl, hds⟩ := dp_ch hd
      rw [readF_ch] at k
      refine ⟨_, rfl, t, _, rfl, ht, rfl, _, _, rfl, _, _, rfl, rfl, ?_⟩
      by_cases hpv : p ∈ vsf R
      rotate_left
      · rw [decide_eq_false hpv] at k
        refine ⟨_, rfl, _, rfl, la, none, rfl, hL.no (fun z => hpv ((hLk p).mp z)), _, rfl, iteT (iteT (k _ (.refl _)))⟩
      obtain ⟨b, hb, hbl⟩ := hL.get ((hLk p).mpr hpv)
      rw [decide_eq_true hpv] at k
      refine ⟨_, rfl, _, rfl, la, _, rfl, hb, _, rfl, iteF ?_⟩
      by_cases hpk : p ∈ ks hv
      · rw [decide_eq_true hpk] at k
        exact ⟨_, rfl, _, rfl, dc, _, rfl, hh.get hpk, _, rfl, iteT (iteT (k _ (.refl _)))⟩
      rw [decide_eq_false hpk] at k
      refine ⟨_, rfl, _, rfl, dc, none, rfl, hh.no hpk, _, rfl, iteF ?_⟩
      refine ⟨_, rfl, l, rfl, ⟨_, hl⟩, fun D hD => ?_⟩
      refine lcL (K := K) (M := []) (of_dpAll hds) (fun G v (z : Int) => v = .int z) (fun _ _ _ _ _ e => e) (fun d => some (hueD d)) hD al_nil (Nat.lt_of_le_of_lt hl3 (by decide)) hl (fun z d H2 Ky Kn hb2 hz s2 al2 ky kn => ?_) (fun ys H2 s2 hD2 hp2 => ?_)
      · obtain ⟨hi, ff, rfl, wf⟩ := hws d hb2
        obtain ⟨tt, u, rfl, htt, hu⟩ := dp_wy (dp_s s2 hz)
        exact ⟨tt, _, rfl, htt, rfl, _, _, rfl, _, _, rfl, rfl, rfl, lcy ⟨_, rfl, ky _ _ _ rfl (.refl _) rfl⟩⟩
      rw [filterMap_some] at hp2
      rw [paired_vals hp2] at hD2
      obtain ⟨b2, hb2, hbl2⟩ := (hL.s s2).get ((hLk p).mpr hpv)
      refine ⟨_, rfl, _, rfl, la, _, rfl, hb2, ?_⟩
      refine ⟨ws.map hueD, lsF L p, LI.dp (SqL.of hD2), LI.dp hbl2, _, rfl, ?_⟩
      by_cases hq : ws.map hueD = lsF L p
      rotate_left
      · rw [decide_eq_false hq] at k
        exact iteYes hq (k _ s2)
      rw [decide_eq_true hq] at k
      refine iteNo (fun z => z hq) ?_
      simp only [Bool.not_false, Bool.true_and] at k
      refine ⟨_, rfl, l, rfl, ⟨_, up (R := SqL K) s2 hl⟩, for_list (K := K) (a := l) (xs := xs) (fun i σ G => ∃ (y6 y7 y8 : Option V), σ = [some (.ref x), some (.ref la), some (.ref t), some (.ref dc), some (.str p), some (.ref l), y6, y7, y8] ∧ Same H G ∧ ∀ w ∈ ws.take i, rdWhy (rdf R) (readF (rdf R) (vsf R) (lsF L) n) hv p (hueD w) (whyD w) = true) ?_ ?_ ?_ ?_⟩
      · exact ⟨_, _, _, rfl, s2, fun w h => by simp at h⟩
      · rintro i σ G _ ⟨_, _, _, _, sG, _⟩
        exact up (R := SqL K) sG hl
      · rintro i z σ G hi ⟨y6, y7, y8, rfl, sG, hall⟩
        obtain ⟨d, hd1, hd2⟩ := dpAll_at (dpAll_s sG hds) hi
        have hdm := List.mem_of_getElem? hd1
        obtain ⟨hh', ff, rfl, wf⟩ := hws d hdm
        obtain ⟨tt, u, rfl, htt, hu⟩ := dp_wy hd2
        have bad : ∀ {G' : Hp}, rdWhy (rdf R) (readF (rdf R) (vsf R) (lsF L) n) hv p hh' ff = false → Same H G' → Q (.bl false) G' := fun {G'} e sg => by
          have := k _ sg
          rw [List.all_eq_false.mpr ⟨_, hdm, by show ¬ rdWhy _ _ hv p hh' ff = true; rw [e]; simp⟩] at this
          exact this
        have good : rdWhy (rdf R) (readF (rdf R) (vsf R) (lsF L) n) hv p hh' ff = true → ∀ w ∈ ws.take (i + 1), rdWhy (rdf R) (readF (rdf R) (vsf R) (lsF L) n) hv p (hueD w) (whyD w) = true := fun e w hw => by
          rw [List.take_add_one, hd1] at hw
          rcases List.mem_append.mp hw with q | q
          · exact hall w q
          · rw [show w = wyD hh' ff by simpa using q]; exact e
        refine ⟨tt, _, rfl, htt, rfl, _, _, rfl, _, _, rfl, rfl, ?_⟩
        rcases wf.alt with ⟨o, ho, rfl⟩ | ⟨m, hm, q, vs2, hqn, rfl, hv3, hvs⟩
        · obtain ⟨t2, rfl, ht2⟩ := dp_td hu
          have hhG : HuAt G dc hv := up sG hh
          rw [rdWhy_td] at bad good
          refine ⟨_, rfl, t2, _, 0, _, rfl, rfl, ht2, rfl, rfl, _, rfl, ?_⟩
          rw [decide_eq_true rfl]
          refine iteT ⟨_, rfl, t2, _, 1, _, rfl, rfl, ht2, rfl, _, .ty "list", _, _, false, rfl, .ty "list", .base (.str _), kit_ty (by decide +kernel), _, rfl, iteT ?_⟩
          have hxG : WebAt K C G x R := up (R := WebAt K C) sG hx
          refine ⟨_, rfl, x, _, _, rfl, (hxG.rds.choose_spec.choose_spec).1, rfl, _, rfl, _, rfl, t2, _, 1, _, rfl, rfl, ht2, rfl, x, R, p, o, rfl, hxG, _, rfl, ?_⟩
          by_cases ho2 : o ∈ rdf R p
          rotate_left
          · rw [decide_eq_false fun z => ho2 z.2]
            exact iteT (iteT (bad (decide_eq_false fun z => ho2 z.1) sG))
          rw [decide_eq_true ⟨hpv, ho2⟩]
          refine iteF ⟨_, rfl, dc, rfl, .inl ⟨_, hhG.1⟩, _, rfl, t2, _, 1, _, rfl, rfl, ht2, rfl, _, hhG.get? o, _, rfl, ?_⟩
          by_cases hok : o ∈ ks hv ∧ hval hv o = hh'
          · rw [if_pos hok.1]
            exact ⟨rfl, _, rfl, iteNS (show (some (V.int (hval hv o))).getD V.non = V.int hh' by rw [hok.2]; rfl) ⟨_, _, _, rfl, sG, good (decide_eq_true ⟨ho2, hok⟩)⟩⟩
          · have hbad := bad (G' := G) (decide_eq_false fun z => hok z.2) sG
            by_cases hok1 : o ∈ ks hv
            · rw [if_pos hok1]
              exact ⟨rfl, _, rfl, iteNY (show ¬ (some (V.int (hval hv o))).getD V.non = V.int hh' from fun z => hok ⟨hok1, V.int.inj z⟩) hbad⟩
            · rw [if_neg hok1]
              exact ⟨rfl, _, rfl, iteNY (show ¬ (none : Option V).getD V.non = V.int hh' from fun z => by cases z) hbad⟩
        · subst hm
          obtain ⟨t2, l2, xs2, rfl, ht2, hl2, hds2⟩ := dp_ch hu
          rw [rdWhy_ch] at bad good
          have hhG : HuAt G dc hv := up sG hh
          have hxG : WebAt K C G x R := up (R := WebAt K C) sG hx
          refine ⟨_, rfl, t2, _, 0, _, rfl, rfl, ht2, rfl, rfl, _, rfl, ?_⟩
          by_cases hqt : q = "tied"
          · rw [decide_eq_true (show V.str q = V.str "tied" by rw [hqt])]
            refine iteT ⟨_, rfl, t2, _, 1, _, rfl, rfl, ht2, rfl, _, .ty "list", _, _, true, rfl, .ty "list", sqL_ty hl2, kit_ty (by decide +kernel), _, rfl, iteF ?_⟩
            refine ⟨_, rfl, dc, _, rfl, hhG.1, fun nd hnd => ?_⟩
            have s1 : Same G (upd G nd (.dK (dk V.int hv))) := .new hnd
            have hlen : (dk V.int hv).length < sizeLine := by
              unfold dk
              rw [List.length_map]
              exact Nat.lt_of_le_of_lt (show hv.length ≤ 100 by omega) (by decide)
            refine ⟨_, rfl, _, rfl, _, rfl, nd, _, rfl, .inl ⟨_, Sum.inr p, upd_same, rfl, hlen, rfl⟩, ?_⟩
            rw [upd_upd, show putK (dk V.int hv) (Sum.inr p) (V.int hh') = dk V.int (hv ++ [(p, hh')]) from putK_dk hpk]
            have s2' : Same G (upd G nd (.dK (dk V.int (hv ++ [(p, hh')])))) := .new hnd
            have hn2 : HuAt (upd G nd (.dK (dk V.int (hv ++ [(p, hh')])))) nd (hv ++ [(p, hh')]) := HuAt.of upd_same (by
              rw [ks_snoc]
              exact List.nodup_append.mpr ⟨hh.2, by simp, fun a ha b hb e => hpk (by rw [← List.mem_singleton.mp hb, ← e]; exact ha)⟩)
            generalize upd G nd (.dK (dk V.int (hv ++ [(p, hh')]))) = G2 at *
            refine ⟨_, rfl, _, rfl, _, rfl, _, rfl, x, la, nd, .ref t2, R, L, hv ++ [(p, hh')], chD q vs2, rfl, up (R := WebAt K C) s2' hxG, (hL.s sG).s s2', hLk, dp_s s2' hu, ⟨q, vs2, hqn, rfl, hv3, hvs⟩, hn2, by rw [List.length_append]; simp only [List.length_cons, List.length_nil]; omega, fun G3 s3 => ⟨_, rfl, ?_⟩⟩
            have s0 := (sG.trans s2').trans s3
            cases hb5 : readF (rdf R) (vsf R) (lsF L) (m + 1) (hv ++ [(p, hh')]) (chD q vs2) with
            | true => exact iteF ⟨_, _, _, rfl, s0, good hb5⟩
            | false => exact iteT (bad hb5 s0)
          · rw [decide_eq_false (show ¬ V.str q = V.str "tied" from fun z => hqt (V.str.inj z))]
            refine iteF ?_
            refine ⟨_, rfl, dc, _, rfl, hhG.1, fun nd hnd => ?_⟩
            have s1 : Same G (upd G nd (.dK (dk V.int hv))) := .new hnd
            have hlen : (dk V.int hv).length < sizeLine := by
              unfold dk
              rw [List.length_map]
              exact Nat.lt_of_le_of_lt (show hv.length ≤ 100 by omega) (by decide)
            refine ⟨_, rfl, _, rfl, _, rfl, nd, _, rfl, .inl ⟨_, Sum.inr p, upd_same, rfl, hlen, rfl⟩, ?_⟩
            rw [upd_upd, show putK (dk V.int hv) (Sum.inr p) (V.int hh') = dk V.int (hv ++ [(p, hh')]) from putK_dk hpk]
            have s2' : Same G (upd G nd (.dK (dk V.int (hv ++ [(p, hh')])))) := .new hnd
            have hn2 : HuAt (upd G nd (.dK (dk V.int (hv ++ [(p, hh')])))) nd (hv ++ [(p, hh')]) := HuAt.of upd_same (by
              rw [ks_snoc]
              exact List.nodup_append.mpr ⟨hh.2, by simp, fun a ha b hb e => hpk (by rw [← List.mem_singleton.mp hb, ← e]; exact ha)⟩)
            generalize upd G nd (.dK (dk V.int (hv ++ [(p, hh')]))) = G2 at *
            refine ⟨_, rfl, _, rfl, _, rfl, _, rfl, x, la, nd, .ref t2, R, L, hv ++ [(p, hh')], chD q vs2, rfl, up (R := WebAt K C) s2' hxG, (hL.s sG).s s2', hLk, dp_s s2' hu, ⟨q, vs2, hqn, rfl, hv3, hvs⟩, hn2, by rw [List.length_append]; simp only [List.length_cons, List.length_nil]; omega, fun G3 s3 => ⟨_, rfl, ?_⟩⟩
            have s0 := (sG.trans s2').trans s3
            cases hb5 : readF (rdf R) (vsf R) (lsF L) (m + 1) (hv ++ [(p, hh')]) (chD q vs2) with
            | true => exact iteF ⟨_, _, _, rfl, s0, good hb5⟩
            | false => exact iteT (bad hb5 s0)
      · rintro σ G ⟨y6, y7, y8, rfl, sG, hall⟩
        have := k _ sG
        rw [dpAll_len hds, List.take_length] at hall
        rw [List.all_eq_true.mpr hall] at this
        exact this
theorem ok_is_read_within (T : Txt K mg C cx) : Cal P w K mg base 16 "is_read_within" (spReadW K C 15) := okR_is_read_within T 15
def spIsRead (K : PySem.W.Frag) (C : Addr) : Sp := fun vs H Q _ => ∃ (x la : Addr) (v : V) (R : List Row) (L : List (Str × List Int)) (e : PyData), vs = [.ref x, .ref la, v] ∧ WebAt K C H x R ∧ LisAt K H la L ∧ (∀ p, p ∈ L.map (·.1) ↔ p ∈ vsf R) ∧
    Dp K H v e ∧ Cw 14 e ∧ ∀ H', Same H H' → Q (.bl (readF (rdf R) (vsf R) (lsF L) 15 [] e)) H'
theorem ok_is_read (T : Txt K mg C cx) : Cal P w K mg base 17 "is_read" (spIsRead K C) := by
  refine cal_of T.d_is_read sc_is_read (fun vs H Q E h => ?_) (fun f cdv A outer s H vs Q E hr h => ?_)
  · obtain ⟨x, la, v, R, L, e, rfl, _⟩ := h
    rfl
  · obtain ⟨x, la, v, R, L, e, rfl, hx, hL, hLk, hd, hc, k⟩ := h
    refine ⟨_, (pss_one (ps_ret (pe_c (ok_is_read_within T) hr (by decide) (by rfl) (pa_cons (pv 0) (pa_cons (pv 1) (pa_cons (pv 2) (pa_cons pe_dnewK pa_nil))))))), ?_⟩
    refine ⟨_, rfl, _, rfl, _, rfl, fun nd hnd => ?_⟩
    have s1 : Same H (upd H nd (.dK [])) := .new hnd
    exact ⟨x, la, nd, v, R, L, [], e, rfl, up (R := WebAt K C) s1 hx, hL.s s1, hLk, dp_s s1 hd, hc, HuAt.of upd_same List.nodup_nil, by simp, fun H' s' => k H' (s1.trans s')⟩
end
end Five
end
section
namespace Five
open PySem PySem.Spec PyProof.Rows L2
section
variable {P : Program} {w : World} {K : PySem.W.Frag} {mg : Str → Option Value} {base : Heap} {C : Addr} {cx : Nat → Addr}
def spReadsL (K : PySem.W.Frag) : Nat → Sp
  | 0 => fun _ _ _ _ => False
  | n + 1 => fun vs H Q _ => ∃ (d la dc : Addr) (v : V) (W : List Row) (L : List (Str × List Int)) (hv : List (Str × Int)) (e : PyData), vs = [.ref d, .ref la, v, .ref dc] ∧ RdsAt K H d W ∧ LisAt K H la L ∧ (∀ p, p ∈ L.map (·.1) ↔ p ∈ vsf W) ∧
    Dp K H v e ∧ Cw n e ∧ HuAt H dc hv ∧ hv.length + n ≤ 100 ∧ ∀ H', Same H H' → Q (.bl (readF (rdf W) (vsf W) (lsF L) (n + 1) hv e)) H'
theorem okR_law_reads (T : Txt K mg C cx) (n : Nat) : Cal P w K mg base (n + 1) "_law_reads" (spReadsL K n) := by
  induction n with
  | zero => exact cal_of T.d_law_reads sc_law_reads (fun vs H Q E h => h.elim) (fun f cdv A outer s H vs Q E hr h => h.elim)
  | succ n ih =>
    have ok_law_reads := fun _ : Txt K mg C cx => ih
    refine cal_of T.d_law_reads sc_law_reads (fun vs H Q E h => ?_) (fun f cdv A outer s H vs Q E hr h => ?_)
    · obtain ⟨d, la, dc, v, W, L, hv, e, rfl, _⟩ := h
      rfl
    · obtain ⟨d, la, dc, v, W, L, hv, e, rfl, hx, hL, hLk, hd, ⟨p, ws, hp, rfl, hl3, hws⟩, hh, hln, k⟩ := h
      refine ⟨_, (pss_cons (ps_if (PW.pt (pw_or (pt_not (pt_val (pe_c (ok_law_is_choice T) hr (by omega) (by rfl) (pa_cons (pv 2) pa_nil)))) (pw_or (pt_cmp (pc_dnotin (hu_of hr) (pe_ix (ix_tupK (K := K)) (pv 2) pe_int (fun _ _ => rfl)) (pv 0))) (pw_or1 (pt_cmp (pc_din (hu_of hr) (pe_ix (ix_tupK (K := K)) (pv 2) pe_int (fun _ _ => rfl)) (pv 3))))))) (pss_one (ps_ret pe_bl)) pss_nil)
      (pss_cons (ps_asg (pv 2) (pg_tupK (K := K) 2 (by rfl) (pgs_cons (pg_name (i := 4) sc_law_reads.nd rfl (Or.inl rfl)) (pgs_cons (pg_name (i := 5) sc_law_reads.nd rfl (Or.inl rfl)) pgs_nil))))
      (pss_cons (ps_if (PW.pt (pw_or (pt_not (pt_val (pe_callB (cr_allK (K := K) rfl) (by rfl) T.n_all (by decide +kernel) (pa_cons (pe_lc (own := [("_law_way", 9)]) (by rfl) sc_law_reads.nd (pi_list (pv 5)) (blkOk_by (own := [("_law_way", 9)]) (N := N_law_reads) (sc := defScope s_law_reads) (by decide +kernel)) (fun _ _ _ _ _ => (pg_name (i := 9) sc_law_reads.nd rfl (Or.inl rfl))) (fun _ _ _ _ _ => pts_nil) (fun _ _ _ _ _ => (pe_and (pe_callB (call_isiK' (K := K)) (by rfl) T.n_isinstance (by decide +kernel) (pa_cons (pv 9) (pa_cons (pe_bltn (v := .ty "tuple") (by rfl) T.n_tuple (by decide +kernel) rfl) pa_nil))) (pe_one (pe_cmpR op_eq (pe_callB (call_lenK (K := K)) (by rfl) T.n_len (by decide +kernel) (pa_cons (pv 9) pa_nil)) pe_int (nomark _)))))) pa_nil)))) (pw_or1 (pt_cmpR (op_neK (K := K) (List Int) hr.units) (pe_lc (own := [("_law_way", 9)]) (by rfl) sc_law_reads.nd (pi_list (pv 5)) (blkOk_by (own := [("_law_way", 9)]) (N := N_law_reads) (sc := defScope s_law_reads) (by decide +kernel)) (fun _ _ _ _ _ => (pg_name (i := 9) sc_law_reads.nd rfl (Or.inl rfl))) (fun _ _ _ _ _ => pts_nil) (fun _ _ _ _ _ => (pe_ix (ix_tupK (K := K)) (pv 9) pe_int (fun _ _ => rfl)))) (pe_dget (hu_of hr) (pv 1) (pv 4) (fun _ _ => rfl)) (nomark _))))) (pss_one (ps_ret pe_bl)) pss_nil)
      (pss_cons (ps_for PassesOwn.never (by rfl) (pi_list (pv 5)) (pg_tupK (K := K) 2 (by rfl) (pgs_cons (pg_name (i := 6) sc_law_reads.nd rfl (Or.inl rfl)) (pgs_cons (pg_name (i := 7) sc_law_reads.nd rfl (Or.inl rfl)) pgs_nil))) (pss_one (ps_if (pt_val (pe_c (ok_law_is_choice T) hr (by omega) (by rfl) (pa_cons (pv 7) pa_nil))) (pss_cons (ps_set (i := 8) sc_law_reads.nd rfl (Or.inl rfl) (pe_callTy call_dictD (by rfl) T.n_dict (by decide +kernel) (pa_cons (pv 3) pa_nil)))
      (pss_cons (ps_dput (hu_of hr) (pv 8) (pv 4) (pv 6) rfl)
      (pss_one (ps_if (pt_not (pt_val (pe_c (ok_law_reads T) hr (by omega) (by rfl) (pa_cons (pv 0) (pa_cons (pv 1) (pa_cons (pv 7) (pa_cons (pv 8) pa_nil))))))) (pss_one (ps_ret pe_bl)) pss_nil)))) (pss_one (ps_if (PW.pt (pw_or (pt_not (pt_val (pe_callB (call_isiK' (K := K)) (by rfl) T.n_isinstance (by decide +kernel) (pa_cons (pv 7) (pa_cons (pe_bltn (v := .ty "tuple") (by rfl) T.n_tuple (by decide +kernel) rfl) pa_nil))))) (pw_or (pt_cmpR op_ne (pe_callB (call_lenK (K := K)) (by rfl) T.n_len (by decide +kernel) (pa_cons (pv 7) pa_nil)) pe_int (nomark _)) (pw_or1 (pt_cmpR op_ne (pe_ix (ix_tupK (K := K)) (pv 7) pe_int (fun _ _ => rfl)) pe_str (nomark _)))))) (pss_one (ps_ret pe_bl)) (pss_one (ps_if (PW.pt (pw_or (pt_cmpR (op_notInK (K := K)) (pe_ix (ix_tupK (K := K)) (pv 7) pe_int (fun _ _ => rfl)) (pe_dget (hu_of hr) (pv 0) (pv 4) (fun _ _ => rfl)) (by rfl)) (pw_or1 (pt_cmpR op_ne (pe_dget1 (hu_of hr) (pv 3) (pe_ix (ix_tupK (K := K)) (pv 7) pe_int (fun _ _ => rfl)) ⟨rfl, rfl, rfl, rfl⟩) (pv 6) (nomark _))))) (pss_one (ps_ret pe_bl)) pss_nil)))))))
      (pss_one (ps_ret pe_bl)))))), ?_⟩
      obtain ⟨t, l, xs, rfl, ht, hl, hds⟩ := dp_ch hd
      rw [readF_ch] at k
      refine ⟨_, rfl, .ref t, chD p ws, n + 1, rfl, hd, .inr ⟨p, ws, hp, rfl, hl3, hws⟩, _, rfl, iteF ?_⟩
      by_cases hpv : p ∈ vsf W
      rotate_left
      · rw [decide_eq_false hpv] at k
        refine ⟨_, rfl, t, _, 0, _, rfl, rfl, ht, rfl, _, rfl, d, none, rfl, hx.no hpv, _, rfl, iteT (iteT (k _ (.refl _)))⟩
      obtain ⟨ra, g2, g1⟩ := hx.getS hpv
      rw [decide_eq_true hpv] at k
      refine ⟨_, rfl, t, _, 0, _, rfl, rfl, ht, rfl, _, rfl, d, _, rfl, g1 _ (.refl _), _, rfl, iteF ?_⟩
      by_cases hpk : p ∈ ks hv
      · rw [decide_eq_true hpk] at k
        exact ⟨_, rfl, t, _, 0, _, rfl, rfl, ht, rfl, _, rfl, dc, _, rfl, hh.get hpk, _, rfl, iteT (k _ (.refl _))⟩
      rw [decide_eq_false hpk] at k
      refine ⟨_, rfl, t, _, 0, _, rfl, rfl, ht, rfl, _, rfl, dc, none, rfl, hh.no hpk, _, rfl, iteF ?_⟩
      refine ⟨_, rfl, t, _, rfl, ht, rfl, _, _, rfl, _, _, rfl, rfl, ?_⟩
      -- all are ways
      refine ⟨_, rfl, l, rfl, ⟨_, hl⟩, fun D hD => ?_⟩
      refine lcL (K := K) (M := []) (of_dpAll hds) (fun G v (z : Bool) => v = .bl z) (fun _ _ _ _ _ e => e) (fun _ => some true) hD al_nil (Nat.lt_of_le_of_lt hl3 (by decide)) hl (fun z dd H2 Ky Kn hb2 hz s2 al2 ky kn => ?_) (fun ys H2 s2 hD2 hp2 => ?_)
      · obtain ⟨hi, ff, rfl, wf⟩ := hws dd hb2
        obtain ⟨tt, u, rfl, htt, hu⟩ := dp_wy (dp_s s2 hz)
        exact ⟨rfl, lcy ⟨_, rfl, .ref tt, .ty "tuple", _, _, true, rfl, .ty "tuple", sqT_ty htt, kit_ty (by decide +kernel), true, rfl, iteT ⟨_, rfl, tt, _, rfl, .inr htt, rfl, ky _ true _ rfl (.refl _) rfl⟩⟩⟩
      rw [filterMap_some] at hp2
      rw [paired_vals hp2] at hD2
      refine ⟨D, _, rfl, SqL.of hD2, _, rfl, ?_⟩
      rw [show ((ws.map fun _ => true).all id) = true from List.all_eq_true.mpr fun b hb => by obtain ⟨_, _, rfl⟩ := List.mem_map.mp hb; rfl]
      refine iteF ?_
      -- the hues
      refine ⟨_, rfl, l, rfl, ⟨_, up (R := SqL K) s2 hl⟩, fun D3 hD3 => ?_⟩
      refine lcL (K := K) (M := []) (of_dpAll (dpAll_s s2 hds)) (fun G v (z : Int) => v = .int z) (fun _ _ _ _ _ e => e) (fun d => some (hueD d)) hD3 al_nil (Nat.lt_of_le_of_lt hl3 (by decide)) (up (R := SqL K) s2 hl) (fun z dd H3 Ky Kn hb2 hz s3 al2 ky kn => ?_) (fun ys H3 s3 hDD hp3 => ?_)
      · obtain ⟨hi, ff, rfl, wf⟩ := hws dd hb2
        obtain ⟨tt, u, rfl, htt, hu⟩ := dp_wy (dp_s s3 hz)
        exact ⟨rfl, lcy ⟨_, rfl, tt, _, 0, _, rfl, rfl, htt, rfl, ky _ _ _ rfl (.refl _) rfl⟩⟩
      rw [filterMap_some] at hp3
      rw [paired_vals hp3] at hDD
      have s23 := s2.trans s3
      obtain ⟨b2, hb2, hbl2⟩ := (hL.s s23).get ((hLk p).mpr hpv)
      refine ⟨_, rfl, _, rfl, la, _, rfl, hb2, ?_⟩
      refine ⟨ws.map hueD, lsF L p, LI.dp (SqL.of hDD), LI.dp hbl2, _, rfl, ?_⟩
      by_cases hq : ws.map hueD = lsF L p
      rotate_left
      · rw [decide_eq_false hq] at k
        exact iteYes hq (k _ s23)
      rw [decide_eq_true hq] at k
      refine iteNo (fun z => z hq) ?_
      simp only [Bool.not_false, Bool.true_and] at k
      refine ⟨_, rfl, l, rfl, ⟨_, up (R := SqL K) s23 hl⟩, for_list (K := K) (a := l) (xs := xs) (fun i σ G => ∃ (y6 y7 y8 y9 : Option V), σ = [some (.ref d), some (.ref la), some (.ref t), some (.ref dc), some (.str p), some (.ref l), y6, y7, y8, y9] ∧ Same H G ∧ ∀ w ∈ ws.take i, rdWhy (rdf W) (readF (rdf W) (vsf W) (lsF L) n) hv p (hueD w) (whyD w) = true) ?_ ?_ ?_ ?_⟩
      · exact ⟨_, _, _, _, rfl, s23, fun w h => by simp at h⟩
      · rintro i σ G _ ⟨_, _, _, _, _, sG, _⟩
        exact up (R := SqL K) sG hl
      · rintro i z σ G hi ⟨y6, y7, y8, y9, rfl, sG, hall⟩
        obtain ⟨dd, hd1, hd2⟩ := dpAll_at (dpAll_s sG hds) hi
        have hdm := List.mem_of_getElem? hd1
        obtain ⟨hh', ff, rfl, wf⟩ := hws dd hdm
        obtain ⟨tt, u, rfl, htt, hu⟩ := dp_wy hd2
        have bad : ∀ {G' : Hp}, rdWhy (rdf W) (readF (rdf W) (vsf W) (lsF L) n) hv p hh' ff = false → Same H G' → Q (.bl false) G' := fun {G'} e sg => by
          have := k _ sg
          rw [List.all_eq_false.mpr ⟨_, hdm, by show ¬ rdWhy _ _ hv p hh' ff = true; rw [e]; simp⟩] at this
          exact this
        have good : rdWhy (rdf W) (readF (rdf W) (vsf W) (lsF L) n) hv p hh' ff = true → ∀ w ∈ ws.take (i + 1), rdWhy (rdf W) (readF (rdf W) (vsf W) (lsF L) n) hv p (hueD w) (whyD w) = true := fun e w hw => by
          rw [List.take_add_one, hd1] at hw
          rcases List.mem_append.mp hw with q | q
          · exact hall w q
          · rw [show w = wyD hh' ff by simpa using q]; exact e
        have hhG : HuAt G dc hv := up sG hh
        have hxG : RdsAt K G d W := up (R := RdsAt K) sG hx
        refine ⟨tt, _, rfl, htt, rfl, _, _, rfl, _, _, rfl, rfl, ?_⟩
        refine ⟨_, rfl, u, ff, n, rfl, hu, wf, _, rfl, ?_⟩
        rcases wf.alt with ⟨o, ho, rfl⟩ | ⟨m, hm, q, vs2, hqn, rfl, hv3, hvs⟩
        · obtain ⟨t2, rfl, ht2⟩ := dp_td hu
          rw [rdWhy_td] at bad good
          refine iteF ⟨_, rfl, .ref t2, .ty "tuple", _, _, true, rfl, .ty "tuple", sqT_ty ht2, kit_ty (by decide +kernel), _, rfl, iteF ?_⟩
          refine ⟨_, rfl, t2, _, rfl, .inr ht2, rfl, _, rfl, iteNS rfl ?_⟩
          refine ⟨_, rfl, t2, _, 0, _, rfl, rfl, ht2, rfl, rfl, _, rfl, iteNS rfl ?_⟩
          obtain ⟨rb, g2G, g1G⟩ := hxG.getS hpv
          refine ⟨_, rfl, t2, _, 1, _, rfl, rfl, ht2, rfl, _, rfl, _, rfl, d, _, rfl, g1G _ (.refl _), rb, _, rfl, .inl g2G, rfl, flat_strs _, _, rfl, ?_⟩
          rw [inV_str]
          by_cases ho2 : o ∈ rdf W p
          rotate_left
          · rw [decide_eq_false ho2]
            exact iteT (iteT (bad (decide_eq_false fun z => ho2 z.1) sG))
          rw [decide_eq_true ho2]
          refine iteF ⟨_, rfl, dc, rfl, .inl ⟨_, hhG.1⟩, _, rfl, t2, _, 1, _, rfl, rfl, ht2, rfl, _, hhG.get? o, _, rfl, ?_⟩
          by_cases hok : o ∈ ks hv ∧ hval hv o = hh'
          · rw [if_pos hok.1]
            exact ⟨rfl, _, rfl, iteNS (show (some (V.int (hval hv o))).getD V.non = V.int hh' by rw [hok.2]; rfl) ⟨_, _, _, _, rfl, sG, good (decide_eq_true ⟨ho2, hok⟩)⟩⟩
          · have hbad := bad (G' := G) (decide_eq_false fun z => hok z.2) sG
            by_cases hok1 : o ∈ ks hv
            · rw [if_pos hok1]
              exact ⟨rfl, _, rfl, iteNY (show ¬ (some (V.int (hval hv o))).getD V.non = V.int hh' from fun z => hok ⟨hok1, V.int.inj z⟩) hbad⟩
            · rw [if_neg hok1]
              exact ⟨rfl, _, rfl, iteNY (show ¬ (none : Option V).getD V.non = V.int hh' from fun z => by cases z) hbad⟩
        · subst hm
          obtain ⟨t2, l2, xs2, rfl, ht2, hl2, hds2⟩ := dp_ch hu
          rw [rdWhy_ch] at bad good
          refine iteT ?_
          refine ⟨_, rfl, dc, _, rfl, hhG.1, fun nd hnd => ?_⟩
          have s1 : Same G (upd G nd (.dK (dk V.int hv))) := .new hnd
          have hlen : (dk V.int hv).length < sizeLine := by
            unfold dk
            rw [List.length_map]
            exact Nat.lt_of_le_of_lt (show hv.length ≤ 100 by omega) (by decide)
          refine ⟨_, rfl, _, rfl, _, rfl, nd, _, rfl, .inl ⟨_, Sum.inr p, upd_same, rfl, hlen, rfl⟩, ?_⟩
          rw [upd_upd, show putK (dk V.int hv) (Sum.inr p) (V.int hh') = dk V.int (hv ++ [(p, hh')]) from putK_dk hpk]
          have s2' : Same G (upd G nd (.dK (dk V.int (hv ++ [(p, hh')])))) := .new hnd
          have hn2 : HuAt (upd G nd (.dK (dk V.int (hv ++ [(p, hh')])))) nd (hv ++ [(p, hh')]) := HuAt.of upd_same (by
            rw [ks_snoc]
            exact List.nodup_append.mpr ⟨hh.2, by simp, fun a ha b hb e => hpk (by rw [← List.mem_singleton.mp hb, ← e]; exact ha)⟩)
          generalize upd G nd (.dK (dk V.int (hv ++ [(p, hh')]))) = G2 at *
          refine ⟨_, rfl, _, rfl, _, rfl, _, rfl, d, la, nd, .ref t2, W, L, hv ++ [(p, hh')], chD q vs2, rfl, up (R := RdsAt K) s2' hxG, (hL.s sG).s s2', hLk, dp_s s2' hu, ⟨q, vs2, hqn, rfl, hv3, hvs⟩, hn2, by rw [List.length_append]; simp only [List.length_cons, List.length_nil]; omega, fun G3 s3 => ⟨_, rfl, ?_⟩⟩
          have s0 := (sG.trans s2').trans s3
          cases hb5 : readF (rdf W) (vsf W) (lsF L) (m + 1) (hv ++ [(p, hh')]) (chD q vs2) with
          | true => exact iteF ⟨_, _, _, _, rfl, s0, good hb5⟩
          | false => exact iteT (bad hb5 s0)
      · rintro σ G ⟨y6, y7, y8, y9, rfl, sG, hall⟩
        have := k _ sG
        rw [dpAll_len hds, List.take_length] at hall
        rw [List.all_eq_true.mpr hall] at this
        exact this
theorem ok_law_reads (T : Txt K mg C cx) : Cal P w K mg base 16 "_law_reads" (spReadsL K 15) := okR_law_reads T 15
end
end Five
end
section
namespace Five
open PySem PySem.Spec PyProof.Rows L2
section
variable {P : Program} {w : World} {K : PySem.W.Frag} {mg : Str → Option Value} {base : Heap} {C : Addr} {cx : Nat → Addr}
def oS : Option Str → V
  | some o => .str o
  | none => .non
def spTiedW (K : PySem.W.Frag) (C : Addr) : Sp := fun vs H Q _ => ∃ (x dc : Addr) (R : List Row) (hv : List (Str × Int)) (p : Str) (h : Int), vs = [.ref x, .str p, .int h, .ref dc] ∧ WebAt K C H x R ∧ p ∈ vsf R ∧ HuAt H dc hv ∧
  ∀ (H' : Hp), Same H H' → Q (oS (tiedF (rdf R) hv p h)) H'
theorem ok_tied_with (T : Txt K mg C cx) : Cal P w K mg base 2 "tied_with" (spTiedW K C) := by
  refine cal_of T.d_tied_with sc_tied_with (fun vs H Q E h => ?_) (fun f cdv A outer s H vs Q E hr h => ?_)
  · obtain ⟨x, dc, R, hv, p, h, rfl, _⟩ := h
    rfl
  · obtain ⟨x, dc, R, hv, p, hu, rfl, hw, hp, hh, k⟩ := h
    refine ⟨_, (pss_cons (ps_for PassesOwn.never (by rfl) (pi_list (pe_mt (ok_Web_round_of T) hr (by decide) (pv 0) (pa_cons (pv 1) pa_nil))) (pg_name (i := 4) sc_tied_with.nd rfl (Or.inl rfl)) (pss_one (ps_if (pt_cmpR op_eq (pe_dget1 (hu_of hr) (pv 3) (pv 4) ⟨rfl, rfl, rfl, rfl⟩) (pv 2) (nomark _)) (pss_one (ps_ret (pv 4))) pss_nil)))
      (pss_one (ps_ret pe_non))), ?_⟩
    obtain ⟨wx, wdd, h1, _⟩ := hw.rds
    refine ⟨_, rfl, x, wx, _, rfl, h1, rfl, _, rfl, x, R, p, rfl, hw, hp, fun ra hra => ?_⟩
    have s1 : Same H (upd H ra (.lst ((rdf R p).map V.str))) := .new hra
    have hrv : upd H ra (.lst ((rdf R p).map V.str)) ra = some (.lst ((rdf R p).map V.str)) := upd_same
    generalize upd H ra (.lst ((rdf R p).map V.str)) = H1 at *
    refine ⟨ra, rfl, ⟨_, SqL.of hrv⟩, for_list (K := K) (a := ra) (xs := (rdf R p).map V.str) (fun i σ H' => ∃ (y4 : Option V), σ = [some (.ref x), some (.str p), some (.int hu), some (.ref dc), y4] ∧ Same H1 H' ∧ ∀ o ∈ (rdf R p).take i, ¬ (o ∈ ks hv ∧ hval hv o = hu)) ?_ ?_ ?_ ?_⟩
    · exact ⟨_, rfl, .refl _, fun o h => by simp at h⟩
    · rintro i σ H' _ ⟨_, _, a, _⟩
      exact SqL.of (a _ _ hrv)
    · rintro i z σ G hi ⟨y4, rfl, sG, hno⟩
      obtain ⟨o, ho, rfl⟩ := item_str hi
      have hhG : HuAt G dc hv := up (s1.trans sG) hh
      refine ⟨_, rfl, dc, rfl, .inl ⟨_, hhG.1⟩, _, rfl, _, hhG.get? o, _, rfl, ?_⟩
      by_cases hok : o ∈ ks hv ∧ hval hv o = hu
      · rw [if_pos hok.1]
        refine ⟨rfl, _, rfl, iteYes (show (some (V.int (hval hv o))).getD V.non = V.int hu by rw [hok.2]; rfl) ⟨_, rfl, ?_⟩⟩
        have e : tiedF (rdf R) hv p hu = some o := find_at (i := i) (fun y hy => decide_eq_false (hno y hy)) ho (decide_eq_true hok)
        have := k G (s1.trans sG)
        rw [e] at this
        exact this
      · have fin : ∃ (y4 : Option V), [some (V.ref x), some (.str p), some (.int hu), some (.ref dc), some (.str o)] = [some (V.ref x), some (.str p), some (.int hu), some (.ref dc), y4] ∧ Same H1 G ∧ ∀ o ∈ (rdf R p).take (i + 1), ¬ (o ∈ ks hv ∧ hval hv o = hu) := ⟨_, rfl, sG, fun y hy => by
          rw [take_snoc ho] at hy
          rcases List.mem_append.mp hy with q | q
          · exact hno y q
          · rw [List.mem_singleton.mp q]; exact hok⟩
        by_cases hok1 : o ∈ ks hv
        · rw [if_pos hok1]
          exact ⟨rfl, _, rfl, iteNo (show ¬ (some (V.int (hval hv o))).getD V.non = V.int hu from fun z => hok ⟨hok1, V.int.inj z⟩) fin⟩
        · rw [if_neg hok1]
          exact ⟨rfl, _, rfl, iteNo (show ¬ (none : Option V).getD V.non = V.int hu from fun z => by cases z) fin⟩
    · rintro σ G ⟨y4, rfl, sG, hno⟩
      rw [List.length_map, List.take_length] at hno
      have e : tiedF (rdf R) hv p hu = none := find_no fun y hy => decide_eq_false (hno y hy)
      have := k G (s1.trans sG)
      rw [e] at this
      exact this
def spFreeW (K : PySem.W.Frag) (C : Addr) : Sp := fun vs H Q _ => ∃ (x la dc : Addr) (R : List Row) (L : List (Str × List Int)) (hv : List (Str × Int)) (p : Str), vs = [.ref x, .ref la, .ref dc, .str p] ∧ WebAt K C H x R ∧ p ∈ vsf R ∧ LisAt K H la L ∧ (∀ p, p ∈ L.map (·.1) ↔ p ∈ vsf R) ∧ (lsF L p).length ≤ 60 ∧ HuAt H dc hv ∧
  ∀ (H' : Hp), Same H H' → Q (.int (freeF (rdf R) (lsF L) hv p)) H'
theorem ok_free_ways (T : Txt K mg C cx) : Cal P w K mg base 3 "free_ways" (spFreeW K C) := by
  refine cal_of T.d_free_ways sc_free_ways (fun vs H Q E h => ?_) (fun f cdv A outer s H vs Q E hr h => ?_)
  · obtain ⟨x, la, dc, R, L, hv, p, rfl, _⟩ := h
    rfl
  · obtain ⟨x, la, dc, R, L, hv, p, rfl, hw, hp, hL, hLk, hl60, hh, k⟩ := h
    refine ⟨_, (pss_one (ps_ret (pe_callB (call_lenK (K := K)) (by rfl) T.n_len (by decide +kernel) (pa_cons (pe_lc (own := [("hue", 4)]) (by rfl) sc_free_ways.nd (pi_list (pe_dget (hu_of hr) (pv 1) (pv 3) (fun _ _ => rfl))) (blkOk_by (own := [("hue", 4)]) (N := N_free_ways) (sc := defScope s_free_ways) (by decide +kernel)) (fun _ _ _ _ _ => (pg_name (i := 4) sc_free_ways.nd rfl (Or.inl rfl))) (fun _ _ _ _ _ => (pts_one (pt_cmpR op_isN (pe_c (ok_tied_with T) hr (by decide) (by rfl) (pa_cons (pv 0) (pa_cons (pv 3) (pa_cons (pv 4) (pa_cons (pv 2) pa_nil))))) pe_non (nomark _)))) (fun _ _ _ _ _ => (pv 4))) pa_nil)))), ?_⟩
    obtain ⟨b, hb, hbl⟩ := hL.get ((hLk p).mpr hp)
    refine ⟨_, rfl, _, rfl, la, _, rfl, hb, b, rfl, ⟨_, hbl⟩, fun D hD => ?_⟩
    refine lcL (K := K) (M := []) (paired_map V.int (lsF L p)) (fun G v (n : Int) => v = .int n) (fun _ _ _ _ _ e => e) (fun h => if (tiedF (rdf R) hv p h).isNone then some h else none) hD al_nil (Nat.lt_of_le_of_lt hl60 (by decide)) hbl (fun v h H3 Ky Kn hb e s3 al3 ky kn => ?_) (fun ys H3 s3 hD3 hp3 => ?_)
    · subst e
      refine ⟨rfl, ?_⟩
      refine ⟨_, rfl, _, rfl, _, rfl, _, rfl, x, dc, R, hv, p, h, rfl, up (R := WebAt K C) s3 hw, hp, up s3 hh, fun H4 s4 => ?_⟩
      cases ht : tiedF (rdf R) hv p h with
      | none => exact ⟨rfl, _, rfl, iteYes rfl ⟨_, rfl, ky _ h _ (by rw [ht]; rfl) s4 rfl⟩⟩
      | some o => exact ⟨rfl, _, rfl, iteNo (show ¬ V.str o = V.non from fun z => nomatch z) (kn _ (by rw [ht]; rfl) s4)⟩
    have e : (lsF L p).filterMap (fun h => if (tiedF (rdf R) hv p h).isNone then some h else none) = (lsF L p).filter fun h => (tiedF (rdf R) hv p h).isNone := by
      induction lsF L p with
      | nil => rfl
      | cons a l ih =>
        rw [List.filterMap_cons, List.filter_cons, ih]
        cases (tiedF (rdf R) hv p a).isNone <;> rfl
    rw [e] at hp3
    rw [paired_vals hp3] at hD3
    have := k H3 s3
    refine ⟨D, _, rfl, .inl (SqL.of hD3), ?_⟩
    rw [List.length_map]
    exact this
def spTightest (K : PySem.W.Frag) (C : Addr) : Sp := fun vs H Q _ => ∃ (x la dc ll : Addr) (R : List Row) (L : List (Str × List Int)) (hv : List (Str × Int)) (left : List Str), vs = [.ref x, .ref la, .ref dc, .ref ll] ∧ WebAt K C H x R ∧ LisAt K H la L ∧ (∀ p, p ∈ L.map (·.1) ↔ p ∈ vsf R) ∧ (∀ p ∈ left, (lsF L p).length ≤ 60) ∧ HuAt H dc hv ∧
  LS K H ll left ∧ left ≠ [] ∧ left.length ≤ 60 ∧ (∀ p ∈ left, p ∈ vsf R) ∧
  ∀ (H' : Hp), Same H H' → Q (.str (tightF (rdf R) (lsF L) hv left)) H'
theorem ok_tightest (T : Txt K mg C cx) : Cal P w K mg base 4 "tightest" (spTightest K C) := by
  refine cal_of T.d_tightest sc_tightest (fun vs H Q E h => ?_) (fun f cdv A outer s H vs Q E hr h => ?_)
  · obtain ⟨x, la, dc, ll, R, L, hv, left, rfl, _⟩ := h
    rfl
  · obtain ⟨x, la, dc, ll, R, L, hv, left, rfl, hw, hL, hLk, hl60, hh, hll, hne, hlen, hsub, k⟩ := h
    refine ⟨_, (pss_one (ps_ret (pe_ix (ix_tupK (K := K)) (pe_callB (cr_minIS (K := K) rfl hr.units) (by rfl) T.n_min (by decide +kernel) (pa_cons (pe_lc (own := [("place", 4)]) (by rfl) sc_tightest.nd (pi_list (pv 3)) (blkOk_by (own := [("place", 4)]) (N := N_tightest) (sc := defScope s_tightest) (by decide +kernel)) (fun _ _ _ _ _ => (pg_name (i := 4) sc_tightest.nd rfl (Or.inl rfl))) (fun _ _ _ _ _ => pts_nil) (fun _ _ _ _ _ => (pe_tup (pa_cons (pe_c (ok_free_ways T) hr (by decide) (by rfl) (pa_cons (pv 0) (pa_cons (pv 1) (pa_cons (pv 2) (pa_cons (pv 4) pa_nil))))) (pa_cons (pv 4) pa_nil))))) pa_nil)) pe_int (fun _ _ => rfl)))), ?_⟩
    refine ⟨_, rfl, ll, rfl, ⟨_, hll⟩, fun D hD => ?_⟩
    refine lcL (K := K) (M := []) (paired_map V.str left) (fun G v (x : Int × Str) => ∃ t, v = .ref t ∧ TI2 K G t x) (rV_up (R := TI2 K)) (fun p => some (frP (rdf R) (lsF L) hv p)) hD al_nil (Nat.lt_of_le_of_lt hlen (by decide)) hll (fun v p H3 Ky Kn hb e s3 al3 ky kn => ?_) (fun ys H3 s3 hD3 hp3 => ?_)
    · subst e
      refine ⟨rfl, lcy ?_⟩
      refine ⟨_, rfl, _, rfl, _, rfl, _, rfl, x, la, dc, R, L, hv, p, rfl, up (R := WebAt K C) s3 hw, hsub p hb, hL.s s3, hLk, hl60 p hb, up s3 hh, fun H4 s4 => ?_⟩
      exact ⟨_, rfl, by show 2 ≤ sizeLine; decide, fun t ht => ky _ (frP (rdf R) (lsF L) hv p) _ rfl (s4.trans (.new ht)) ⟨t, rfl, TI2.of upd_same ((al3.same s4).fresh ht)⟩⟩
    rw [filterMap_some] at hp3
    obtain ⟨ts, rfl, hts⟩ := paired_refs hp3
    have hP0 : Paired (TI2 K H3) ts (left.map fun p => frP (rdf R) (lsF L) hv p) := Paired.mapP hts fun t x q => up wo_same q
    refine ⟨D, ts, _, rfl, SqL.of hD3, hP0, by simpa using hne, fun b m hm hmin hb => ?_⟩
    obtain ⟨u, hu, rfl⟩ := List.mem_map.mp hm
    have e := tight_is (rd := rdf R) (ls := lsF L) (hv := hv) hu fun q hq => hmin _ (List.mem_map.mpr ⟨q, hq, rfl⟩)
    have := k H3 s3
    rw [e] at this
    exact ⟨b, _, _, _, rfl, rfl, SqT.of hb, rfl, this⟩
end
end Five
end
section
namespace Five
open PySem PySem.Spec PyProof.Rows L2
/-! a choice as it stands, with its lists -/
mutual
inductive ChW (G : Hp) : V → PyData → List Addr → Prop
  | td {t : Addr} {o : Str} : G t = some (.tup [.str "tied", .str o]) → ChW G (.ref t) (tdD o) []
  | ch {t l : Addr} {p : Str} {xs : List V} {ws : List PyData} {Bs : List (List Addr)} : G t = some (.tup [.str p, .ref l]) → G l = some (.lst xs) → ChWs G xs ws Bs → ChW G (.ref t) (chD p ws) (l :: Bs.flatten)
inductive ChWs (G : Hp) : List V → List PyData → List (List Addr) → Prop
  | nil : ChWs G [] [] []
  | cons {y : Addr} {h : Int} {u : V} {f : PyData} {xs : List V} {ws : List PyData} {As : List Addr} {Bs : List (List Addr)} : G y = some (.tup [.int h, u]) → ChW G u f As → ChWs G xs ws Bs → ChWs G (.ref y :: xs) (wyD h f :: ws) (As :: Bs)
end
section
variable {K : PySem.W.Frag} {G G' : Hp}
mutual
theorem ChW.s (s : Same G G') : ∀ {v : V} {e : PyData} {As : List Addr}, ChW G v e As → ChW G' v e As
  | _, _, _, .td h => .td (s _ _ h)
  | _, _, _, .ch h1 h2 h3 => .ch (s _ _ h1) (s _ _ h2) (ChWs.s s h3)
theorem ChWs.s (s : Same G G') : ∀ {xs : List V} {ws : List PyData} {Bs : List (List Addr)}, ChWs G xs ws Bs → ChWs G' xs ws Bs
  | _, _, _, .nil => .nil
  | _, _, _, .cons h1 h2 h3 => .cons (s _ _ h1) (ChW.s s h2) (ChWs.s s h3)
end
mutual
theorem ChW.dp : ∀ {v : V} {e : PyData} {As : List Addr}, ChW G v e As → Dp K G v e
  | _, _, _, .td h => .tup (SqT.of h) (.cons (.str _) (.cons (.str _) .nil))
  | _, _, _, .ch h1 h2 h3 => .tup (SqT.of h1) (.cons (.str _) (.cons (.lst (SqL.of h2) (ChWs.dp h3)) .nil))
theorem ChWs.dp : ∀ {xs : List V} {ws : List PyData} {Bs : List (List Addr)}, ChWs G xs ws Bs → DpAll K G xs ws
  | _, _, _, .nil => .nil
  | _, _, _, .cons h1 h2 h3 => .cons (.tup (SqT.of h1) (.cons (.int _) (.cons (ChW.dp h2) .nil))) (ChWs.dp h3)
end
mutual
/-- its lists are lists -/
theorem ChW.ls : ∀ {v : V} {e : PyData} {As : List Addr}, ChW G v e As → ∀ a ∈ As, ∃ xs, G a = some (.lst xs)
  | _, _, _, .td _, _, h => nomatch h
  | _, _, _, .ch _ h2 h3, a, h => by
    rcases List.mem_cons.mp h with e | e
    · rw [e]; exact ⟨_, h2⟩
    · exact ChWs.ls h3 a e
theorem ChWs.ls : ∀ {xs : List V} {ws : List PyData} {Bs : List (List Addr)}, ChWs G xs ws Bs → ∀ a ∈ Bs.flatten, ∃ xs, G a = some (.lst xs)
  | _, _, _, .nil, _, h => nomatch h
  | _, _, _, .cons _ h2 h3, a, h => by
    rcases List.mem_append.mp (show a ∈ _ ++ _ from h) with e | e
    · exact ChW.ls h2 a e
    · exact ChWs.ls h3 a e
end
theorem ChWs.snoc {y : Addr} {h : Int} {u : V} {f : PyData} {As : List Addr} (h1 : G y = some (.tup [.int h, u])) (h2 : ChW G u f As) : ∀ {xs : List V} {ws : List PyData} {Bs : List (List Addr)}, ChWs G xs ws Bs → ChWs G (xs ++ [.ref y]) (ws ++ [wyD h f]) (Bs ++ [As])
  | _, _, _, .nil => .cons h1 h2 .nil
  | _, _, _, .cons a b c => .cons a b (ChWs.snoc h1 h2 c)
theorem ChWs.len : ∀ {xs : List V} {ws : List PyData} {Bs : List (List Addr)}, ChWs G xs ws Bs → xs.length = ws.length
  | _, _, _, .nil => rfl
  | _, _, _, .cons _ _ h => by rw [List.length_cons, List.length_cons, h.len]
end
/-- what a search tells, made anew beside H -/
inductive SrN (H H' : Hp) (dc : Addr) : V → SR → Prop
  | hues {t d : Addr} {x : List (Str × Int)} : H' t = some (.tup [.str "hues", .ref d]) → H' d = some (.dK (dk V.int x)) → (ks x).Nodup → (d = dc ∨ H d = none) → SrN H H' dc (.ref t) (.hues x)
  | cho {t : Addr} {u : V} {e : PyData} {As : List Addr} : H' t = some (.tup [.str "choice", u]) → ChW (nw H H') u e As → As.Nodup → SrN H H' dc (.ref t) (.cho e)
section
variable {P : Program} {w : World} {K : PySem.W.Frag} {mg : Str → Option Value} {base : Heap} {C : Addr} {cx : Nat → Addr}
def spSearched (K : PySem.W.Frag) (C : Addr) : Nat → Sp
  | 0 => fun _ _ _ _ => False
  | n + 1 => fun vs H Q _ => ∃ (x la dc ll : Addr) (R : List Row) (L : List (Str × List Int)) (hv : List (Str × Int)) (left : List Str), vs = [.ref x, .ref la, .ref dc, .ref ll] ∧ WebAt K C H x R ∧ LisAt K H la L ∧ (∀ p, p ∈ L.map (·.1) ↔ p ∈ vsf R) ∧ (∀ p ∈ vsf R, (lsF L p).length ≤ 60) ∧ H dc = some (.dK (dk V.int hv)) ∧ (ks hv).Nodup ∧
    LS K H ll left ∧ left.length ≤ n ∧ hv.length + n ≤ 60 ∧ left.Nodup ∧ (∀ p ∈ left, p ∈ vsf R ∧ p ∉ ks hv) ∧
    ∀ (v : V) (H' : Hp), Same H H' → SrN H H' dc v (srchF (rdf R) (lsF L) n hv left) → Q v H'
theorem waysF_cons {rd : Str → List Str} {f : List (Str × Int) → SR} {hv : List (Str × Int)} {p : Str} {h : Int} {t : List Int} {ws : List PyData} : waysF rd f hv p (h :: t) ws = match tiedF rd hv p h with
    | some o => waysF rd f hv p t (ws ++ [wyD h (tdD o)])
    | none => match f (hv ++ [(p, h)]) with
      | .hues x => .hues x
      | .cho e => waysF rd f hv p t (ws ++ [wyD h e]) := rfl
theorem filterMap_ite {α : Type} {p : α → Prop} [DecidablePred p] (l : List α) : l.filterMap (fun o => if p o then some o else none) = l.filter fun o => decide (p o) := by
  induction l with
  | nil => rfl
  | cons a l ih =>
    rw [List.filterMap_cons, List.filter_cons, ih]
    by_cases h : p a
    · rw [if_pos h, decide_eq_true h]; rfl
    · rw [if_neg h, decide_eq_false h]; rfl
theorem nw_new {H G : Hp} {t : Addr} {o : HO} (s : Same H G) (ht : G t = none) : nw H (upd G t o) t = some o := by
  rw [nw_of (s.free ht), upd_same]
theorem okR_searched (T : Txt K mg C cx) (n : Nat) : Cal P w K mg base (n + 6) "searched" (spSearched K C n) := by
  induction n with
  | zero => exact cal_of T.d_searched sc_searched (fun vs H Q E h => h.elim) (fun f cdv A outer s H vs Q E hr h => h.elim)
  | succ n ih =>
    have ok_searched := fun _ : Txt K mg C cx => ih
    refine cal_of T.d_searched sc_searched (fun vs H Q E h => ?_) (fun f cdv A outer s H vs Q E hr h => ?_)
    · obtain ⟨x, la, dc, ll, R, L, hv, left, rfl, _⟩ := h
      rfl
    · obtain ⟨x, la, dc, ll, R, L, hv, left, rfl, hx, hL, hLk, hl60, hdv, hkn, hll, hlen, hln, hnd, hsub, k⟩ := h
      have hh : HuAt H dc hv := HuAt.of hdv hkn
      refine ⟨_, (pss_cons (ps_if (pt_cmpR (op_eqK (K := K) (List Str) hr.units) (pv 3) (pe_lst pa_nil) (nomark _)) (pss_one (ps_ret (pe_tup (pa_cons pe_str (pa_cons (pv 2) pa_nil))))) pss_nil)
      (pss_cons (ps_set (i := 4) sc_searched.nd rfl (Or.inr rfl) (pe_c (ok_tightest T) hr (by omega) (by rfl) (pa_cons (pv 0) (pa_cons (pv 1) (pa_cons (pv 2) (pa_cons (pv 3) pa_nil))))))
      (pss_cons (ps_setLc (i := 5) (own := [("other", 8)]) (by rfl) sc_searched.nd rfl rfl (sw_true rfl rfl rfl (by decide +kernel)) (pi_list (pv 3)) (blkOk_by (own := [("other", 8)]) (N := N_searched) (sc := defScope s_searched) (by decide +kernel)) (fun _ _ _ _ _ => (pg_name (i := 8) sc_searched.nd rfl (Or.inl rfl))) (fun _ _ _ _ _ => (pts_one (pt_cmpR op_ne (pv 8) (pv 4) (nomark _)))) (fun _ _ _ _ _ => (pv 8)))
      (pss_cons (ps_set (i := 6) sc_searched.nd rfl (Or.inl rfl) (pe_lst pa_nil))
      (pss_cons (ps_for PassesOwn.never (by rfl) (pi_list (pe_dget (hu_of hr) (pv 1) (pv 4) (fun _ _ => rfl))) (pg_name (i := 7) sc_searched.nd rfl (Or.inl rfl)) (pss_cons (ps_set (i := 8) sc_searched.nd rfl (Or.inl rfl) (pe_c (ok_tied_with T) hr (by omega) (by rfl) (pa_cons (pv 0) (pa_cons (pv 4) (pa_cons (pv 7) (pa_cons (pv 2) pa_nil))))))
      (pss_one (ps_if (pt_cmpR op_notN (pv 8) pe_non (nomark _)) (pss_one (ps_expr (pe_bm PySem.F.plainAttrs_list PySem.F.slot_list_append PySem.F.type_list_append mt_append (pv 6) (pa_cons (pe_tup (pa_cons (pv 7) (pa_cons (pe_tup (pa_cons (pe_gc (by rfl) T.g_TIED) (pa_cons (pv 8) pa_nil))) pa_nil))) pa_nil)))) (pss_cons (ps_set (i := 9) sc_searched.nd rfl (Or.inl rfl) (pe_callTy call_dictD (by rfl) T.n_dict (by decide +kernel) (pa_cons (pv 2) pa_nil)))
      (pss_cons (ps_dput (hu_of hr) (pv 9) (pv 4) (pv 7) rfl)
      (pss_cons (ps_asg (pe_c (ok_searched T) hr (by omega) (by rfl) (pa_cons (pv 0) (pa_cons (pv 1) (pa_cons (pv 9) (pa_cons (pv 5) pa_nil))))) (pg_tupK (K := K) 2 (by rfl) (pgs_cons (pg_name (i := 10) sc_searched.nd rfl (Or.inl rfl)) (pgs_cons (pg_name (i := 11) sc_searched.nd rfl (Or.inl rfl)) pgs_nil))))
      (pss_cons (ps_if (pt_cmpR op_eq (pv 10) pe_str (nomark _)) (pss_one (ps_ret (pe_tup (pa_cons (pv 10) (pa_cons (pv 11) pa_nil))))) pss_nil)
      (pss_one (ps_expr (pe_bm PySem.F.plainAttrs_list PySem.F.slot_list_append PySem.F.type_list_append mt_append (pv 6) (pa_cons (pe_tup (pa_cons (pv 7) (pa_cons (pv 11) pa_nil))) pa_nil))))))))))))
      (pss_one (ps_ret (pe_tup (pa_cons pe_str (pa_cons (pe_tup (pa_cons (pv 4) (pa_cons (pv 6) pa_nil))) pa_nil)))))))))), ?_⟩
      refine ⟨_, rfl, Nat.zero_le _, fun e0 he0 => ⟨_, _, LS.dp (up (R := LS K) (.new he0) hll), nil_dp (SqL.of upd_same), _, rfl, ?_⟩⟩
      have s1 : Same H (upd H e0 (.lst [])) := .new he0
      generalize upd H e0 (.lst []) = H1 at *
      by_cases hne : left = []
      · subst hne
        refine iteYes rfl ⟨_, rfl, by show 2 ≤ sizeLine; decide, fun t ht => k _ _ (s1.trans (.new ht)) ?_⟩
        have e : srchF (rdf R) (lsF L) n hv [] = .hues hv := by cases n <;> rfl
        rw [e]
        exact .hues upd_same ((s1.trans (.new ht)) _ _ hdv) hkn (.inl rfl)
      refine iteNo hne ?_
      have h0l : 0 < left.length := List.length_pos_iff.mpr hne
      obtain ⟨m, rfl⟩ : ∃ m, n = m + 1 := ⟨n - 1, by omega⟩
      refine ⟨_, rfl, _, rfl, _, rfl, _, rfl, x, la, dc, ll, R, L, hv, left, rfl, up (R := WebAt K C) s1 hx, hL.s s1, hLk, fun p hp => hl60 p (hsub p hp).1, up s1 hh, up (R := LS K) s1 hll, hne, by omega, fun p hp => (hsub p hp).1, fun H2 s2 => ?_⟩
      have s02 := s1.trans s2
      have hpm := tight_mem (rd := rdf R) (ls := lsF L) (hv := hv) hne
      have esr : srchF (rdf R) (lsF L) (m + 1) hv left = waysF (rdf R) (fun x => srchF (rdf R) (lsF L) m x (left.filter fun o => decide (o ≠ tightF (rdf R) (lsF L) hv left))) hv (tightF (rdf R) (lsF L) hv left) (lsF L (tightF (rdf R) (lsF L) hv left)) [] := by
        show (if left = [] then _ else _) = _
        rw [if_neg hne]
      rw [esr] at k
      generalize tightF (rdf R) (lsF L) hv left = p at *
      obtain ⟨hpR, hpk⟩ := hsub p hpm
      -- the others
      refine ⟨_, rfl, ll, rfl, ⟨_, up (R := LS K) s02 hll⟩, fun D hD => ?_⟩
      refine lcL (K := K) (M := []) (paired_map V.str left) (fun G v (n : Str) => v = .str n) (fun _ _ _ _ _ e => e) (fun o => if o ≠ p then some o else none) hD al_nil (Nat.lt_of_le_of_lt (show left.length ≤ 60 by omega) (by decide)) (up (R := LS K) s02 hll) (fun v o H3 Ky Kn hb e s3 al3 ky kn => ?_) (fun ys H3 s3 hD3 hp3 => ?_)
      · subst e
        refine ⟨rfl, _, rfl, _, rfl, rfl, _, rfl, ?_⟩
        by_cases c : o = p
        · exact iteNS (by rw [c]) (kn _ (by rw [if_neg (by simpa using c)]) (.refl _))
        · exact iteNY (fun z => c (V.str.inj z)) ⟨_, rfl, ky _ o _ (by rw [if_pos c]) (.refl _) rfl⟩
      have e : left.filterMap (fun o => if o ≠ p then some o else none) = left.filter fun o => decide (o ≠ p) := by
        exact filterMap_ite _
      rw [e] at hp3
      rw [paired_vals hp3] at hD3
      have s03 := s02.trans s3
      generalize hrest : left.filter (fun o => decide (o ≠ p)) = rest at *
      have hrl : rest.length ≤ m := by
        have h1 : rest.length + 1 ≤ left.length := by
          have hp' : (p :: rest).length ≤ left.length := nodup_le (List.nodup_cons.mpr ⟨fun z => by rw [← hrest] at z; simpa using (List.mem_filter.mp z).2, by rw [← hrest]; exact hnd.filter _⟩) fun y hy => by
            rcases List.mem_cons.mp hy with q | q
            · rw [q]; exact hpm
            · rw [← hrest] at q; exact (List.mem_filter.mp q).1
          rw [List.length_cons] at hp'
          exact hp'
        omega
      have hrn : rest.Nodup := by rw [← hrest]; exact hnd.filter _
      have hrs : ∀ q ∈ rest, q ∈ left ∧ q ≠ p := fun q hq => by
        rw [← hrest] at hq
        obtain ⟨a, b⟩ := List.mem_filter.mp hq
        exact ⟨a, of_decide_eq_true b⟩
      refine ⟨Nat.zero_le _, fun wl hwl => ?_⟩
      have s4 : Same H3 (upd H3 wl (.lst [])) := .new hwl
      have hwl4 : upd H3 wl (.lst []) wl = some (.lst []) := upd_same
      have hwl0 : H wl = none := s03.free hwl
      have nDw : D ≠ wl := fun e => by rw [← e, hD3] at hwl; cases hwl
      have hD4 := s4 _ _ hD3
      have hW4 : Same H (upd H3 wl (.lst [])) := s03.trans s4
      generalize upd H3 wl (.lst []) = H4 at *
      obtain ⟨b, hbl, hb⟩ := hL.getS ((hLk p).mpr hpR)
      have hlp := hl60 p hpR
      have back : ∀ {G : Hp}, Same (wo H4 [wl]) G → Same H G := fun {G} a b o e => a _ _ (by
        rw [wo_out (by simpa using ne_of_none e hwl0)]
        exact hW4 _ _ e)
      refine ⟨_, rfl, _, rfl, la, _, rfl, hb _ hW4, b, rfl, ⟨_, hW4.seq hbl⟩, for_list (K := K) (a := b) (xs := (lsF L p).map V.int) (fun i σ G => ∃ (y7 y8 y9 y10 y11 : Option V) (xs : List V) (ws : List PyData) (Bs : List (List Addr)), σ = [some (.ref x), some (.ref la), some (.ref dc), some (.ref ll), some (.str p), some (.ref D), some (.ref wl), y7, y8, y9, y10, y11] ∧ Same (wo H4 [wl]) G ∧ G wl = some (.lst xs) ∧ ChWs (nw H (wo G [wl])) xs ws Bs ∧ Bs.flatten.Nodup ∧ ws.length ≤ i ∧
          waysF (rdf R) (fun x => srchF (rdf R) (lsF L) m x rest) hv p (lsF L p) [] = waysF (rdf R) (fun x => srchF (rdf R) (lsF L) m x rest) hv p ((lsF L p).drop i) ws) ?_ ?_ ?_ ?_⟩
      · exact ⟨_, _, _, _, _, [], [], [], rfl, wo_same, hwl4, .nil, List.nodup_nil, Nat.zero_le _, by rw [List.drop_zero]⟩
      · rintro i σ G _ ⟨_, _, _, _, _, _, _, _, _, a, _⟩
        exact (back a).seq hbl
      · rintro i z σ G hi ⟨y7, y8, y9, y10, y11, xs, ws, Bs, rfl, sG, hwG, hch, hbn, hwl, hway⟩
        obtain ⟨hu, hhu, rfl⟩ := item_int hi
        have hdr : (lsF L p).drop i = hu :: (lsF L p).drop (i + 1) := by
          rw [List.drop_eq_getElem_cons (List.getElem?_eq_some_iff.mp hhu).1, (List.getElem?_eq_some_iff.mp hhu).2]
        have hi60 : i < 60 := Nat.lt_of_lt_of_le (List.getElem?_eq_some_iff.mp hhu).1 hlp
        have sHG := back sG
        rw [hdr, waysF_cons] at hway
        refine ⟨_, rfl, _, rfl, _, rfl, _, rfl, x, dc, R, hv, p, hu, rfl, up (R := WebAt K C) sHG hx, hpR, up sHG hh, fun G1 s1 => ⟨_, rfl, rfl, _, rfl, ?_⟩⟩
        have hw1 := s1 _ _ hwG
        have sHG1 := sHG.trans s1
        have sW1 : Same (wo H4 [wl]) G1 := sG.trans s1
        have hch1 : ChWs (nw H (wo G1 [wl])) xs ws Bs := ChWs.s (nw_up s1.wo) hch
        have al1 : Al [wl] G1 := fun q hq => by rw [List.mem_singleton.mp hq, hw1]; simp
        have hxl : xs.length < sizeLine := by
          rw [hch.len]
          exact Nat.lt_of_le_of_lt (show ws.length ≤ 60 by omega) (by decide)
        cases ht : tiedF (rdf R) hv p hu with
        | some o =>
          rw [ht] at hway
          refine iteNY (show ¬ V.str o = V.non from fun z => nomatch z) ⟨_, rfl, .inl ⟨rfl, _, SqL.of hw1⟩, _, rfl, _, rfl, by show 2 ≤ sizeLine; decide, fun t2 ht2 => ⟨by show 2 ≤ sizeLine; decide, fun t1 ht1 => ?_⟩⟩
          have sA : Same G1 (upd G1 t2 (.tup [.str "tied", .str o])) := .new ht2
          have sB : Same (upd G1 t2 (.tup [.str "tied", .str o])) (upd (upd G1 t2 (.tup [.str "tied", .str o])) t1 (.tup [.int hu, .ref t2])) := .new ht1
          have hA2 : nw H (wo (upd G1 t2 (.tup [.str "tied", .str o])) [wl]) t2 = some (.tup [.str "tied", .str o]) := by
            rw [nw_of (sHG1.free ht2), wo_out (al1.fresh ht2), upd_same]
          have hB1 : nw H (wo (upd (upd G1 t2 (.tup [.str "tied", .str o])) t1 (.tup [.int hu, .ref t2])) [wl]) t1 = some (.tup [.int hu, .ref t2]) := by
            rw [nw_of ((sHG1.trans sA).free ht1), wo_out ((al1.same sA).fresh ht1), upd_same]
          refine ⟨wl, _, _, rfl, rfl, (sA.trans sB) _ _ hw1, hxl, ?_⟩
          refine ⟨_, _, _, _, _, _, ws ++ [wyD hu (tdD o)], Bs ++ [[]], rfl, ?_, upd_same, ?_, by simpa using hbn, ?_, hway⟩
          · exact (sW1.trans (sA.trans sB)).mut (wo_in (by simp))
          · rw [wo_mut (by simp)]
            exact ChWs.snoc hB1 (.td (nw_up sB.wo _ _ hA2)) (ChWs.s (nw_up (sA.trans sB).wo) hch1)
          · rw [List.length_append]
            show ws.length + 1 ≤ i + 1
            omega
        | none =>
          rw [ht] at hway
          refine iteNS rfl ?_
          have hhG : HuAt G1 dc hv := up sHG1 hh
          refine ⟨_, rfl, dc, _, rfl, hhG.1, fun nd hnd => ?_⟩
          have hlen' : (dk V.int hv).length < sizeLine := by
            unfold dk
            rw [List.length_map]
            exact Nat.lt_of_le_of_lt (show hv.length ≤ 60 by omega) (by decide)
          refine ⟨_, rfl, _, rfl, _, rfl, nd, _, rfl, .inl ⟨_, Sum.inr p, upd_same, rfl, hlen', rfl⟩, ?_⟩
          rw [upd_upd, show putK (dk V.int hv) (Sum.inr p) (V.int hu) = dk V.int (hv ++ [(p, hu)]) from putK_dk hpk]
          have s2 : Same G1 (upd G1 nd (.dK (dk V.int (hv ++ [(p, hu)])))) := .new hnd
          have hdv2 : upd G1 nd (.dK (dk V.int (hv ++ [(p, hu)]))) nd = some (.dK (dk V.int (hv ++ [(p, hu)]))) := upd_same
          have hn2 : (ks (hv ++ [(p, hu)])).Nodup := (by
            rw [ks_snoc]
            exact List.nodup_append.mpr ⟨hh.2, by simp, fun a ha b hb e => hpk (by rw [← List.mem_singleton.mp hb, ← e]; exact ha)⟩)
          generalize upd G1 nd (.dK (dk V.int (hv ++ [(p, hu)]))) = G2 at *
          have sHG2 := sHG1.trans s2
          have sH4D : ∀ {G' : Hp}, Same (wo H4 [wl]) G' → LS K G' D rest := fun {G'} s => SqL.of (s _ _ (by rw [wo_out (by simpa using nDw)]; exact hD4))
          refine ⟨_, rfl, _, rfl, _, rfl, _, rfl, x, la, nd, D, R, L, hv ++ [(p, hu)], rest, rfl, up (R := WebAt K C) sHG2 hx, hL.s sHG2, hLk, hl60, hdv2, hn2, sH4D (sW1.trans s2), hrl, by rw [List.length_append]; show hv.length + 1 + m ≤ 60; omega, hrn, fun q hq => ⟨(hsub q (hrs q hq).1).1, fun z => ?_⟩, fun v G3 s3 hsr => ?_⟩
          · rw [ks_snoc] at z
            rcases List.mem_append.mp z with z | z
            · exact (hsub q (hrs q hq).1).2 z
            · exact (hrs q hq).2 (List.mem_singleton.mp z)
          have sHG3 := sHG2.trans s3
          have hw3 := s3 _ _ (s2 _ _ hw1)
          generalize hsv : srchF (rdf R) (lsF L) m (hv ++ [(p, hu)]) rest = sr at hsr hway
          cases hsr with
          | @hues t d xx h1 h2 h3 h4 =>
            refine ⟨t, _, rfl, SqT.of h1, rfl, _, _, rfl, _, _, rfl, rfl, ?_⟩
            refine ⟨_, rfl, rfl, _, rfl, iteYes rfl ⟨_, rfl, _, rfl, by show 2 ≤ sizeLine; decide, fun t' ht' => k _ _ (sHG3.trans (.new ht')) ?_⟩⟩
            rw [hway]
            exact .hues upd_same (Same.new ht' _ _ h2) h3 (.inr (h4.elim (fun q => by rw [q]; exact sHG1.free hnd) fun q => sHG2.free q))
          | @cho t u e As h1 h2 hAn =>
            refine ⟨t, _, rfl, SqT.of h1, rfl, _, _, rfl, _, _, rfl, rfl, ?_⟩
            refine ⟨_, rfl, rfl, _, rfl, iteNo (fun z => absurd (V.str.inj z) (by decide +kernel)) ⟨_, rfl, .inl ⟨rfl, _, SqL.of hw3⟩, _, rfl, _, rfl, by show 2 ≤ sizeLine; decide, fun t1 ht1 => ?_⟩⟩
            have sB : Same G3 (upd G3 t1 (.tup [.int hu, u])) := .new ht1
            have al3 : Al [wl] G3 := fun q hq => by rw [List.mem_singleton.mp hq, hw3]; simp
            have al2 : Al [wl] G2 := fun q hq => by rw [List.mem_singleton.mp hq, s2 _ _ hw1]; simp
            have hB1 : nw H (wo (upd G3 t1 (.tup [.int hu, u])) [wl]) t1 = some (.tup [.int hu, u]) := by
              rw [nw_of (sHG3.free ht1), wo_out (al3.fresh ht1), upd_same]
            have hu3 : ChW (nw H (wo G3 [wl])) u e As := ChW.s (fun b o q => by
              obtain ⟨q1, q2⟩ := nw_get q
              rw [nw_of (sHG2.free q1), wo_out (al2.fresh q1)]
              exact q2) h2
            refine ⟨wl, _, _, rfl, rfl, sB _ _ hw3, hxl, ?_⟩
            refine ⟨_, _, _, _, _, _, ws ++ [wyD hu e], Bs ++ [As], rfl, ?_, upd_same, ?_, ?_, ?_, hway⟩
            · exact (((sW1.trans s2).trans s3).trans sB).mut (wo_in (by simp))
            · rw [wo_mut (by simp)]
              exact ChWs.snoc hB1 (ChW.s (nw_up sB.wo) hu3) (ChWs.s (nw_up ((s2.trans s3).trans sB).wo) hch1)
            · rw [List.flatten_append]
              refine List.nodup_append.mpr ⟨hbn, by simpa using hAn, fun a ha b hb e => ?_⟩
              obtain ⟨ys, q1⟩ := hch1.ls a ha
              obtain ⟨zs, q2⟩ := h2.ls b (by simpa using hb)
              have q3 := (wo_get (nw_get q1).2).1
              have q4 := (nw_get q2).1
              rw [← e, s2 _ _ q3] at q4
              cases q4
            · rw [List.length_append]
              show ws.length + 1 ≤ i + 1
              omega
      · rintro σ G ⟨y7, y8, y9, y10, y11, xs, ws, Bs, rfl, sG, hwG, hch, hbn, hwl, hway⟩
        rw [List.length_map, List.drop_length] at hway
        have sHG := back sG
        refine ⟨_, rfl, _, rfl, by show 2 ≤ sizeLine; decide, fun t2 ht2 => ⟨by show 2 ≤ sizeLine; decide, fun t1 ht1 => ?_⟩⟩
        have sA : Same G (upd G t2 (.tup [.str p, .ref wl])) := .new ht2
        have sB : Same (upd G t2 (.tup [.str p, .ref wl])) (upd (upd G t2 (.tup [.str p, .ref wl])) t1 (.tup [.str "choice", .ref t2])) := .new ht1
        refine k _ _ (sHG.trans (sA.trans sB)) ?_
        rw [hway]
        refine .cho upd_same (.ch (l := wl) (xs := xs) ?_ ?_ ?_) (List.nodup_cons.mpr ⟨fun z => ?_, hbn⟩)
        · rw [nw_of (sHG.free ht2)]; exact sB _ _ upd_same
        · rw [nw_of hwl0]; exact (sA.trans sB) _ _ hwG
        · exact ChWs.s (nw_up (wo_same.trans (sA.trans sB))) hch
        · obtain ⟨ys, q1⟩ := hch.ls wl z
          exact (wo_get (nw_get q1).2).2 (by simp)
end
end Five
end
section
namespace Five
open PySem PySem.Spec PyProof.Rows L2
open PySem.W (Datum DatumOrd)
section
variable {P : Program} {w : World} {K : PySem.W.Frag} {mg : Str → Option Value} {base : Heap} {C : Addr} {cx : Nat → Addr}
theorem ok_searched (T : Txt K mg C cx) : Cal P w K mg base 19 "searched" (spSearched K C 13) := okR_searched T 13
def KeysW (R : List Row) (L : List (Str × List Int)) : Prop := ∀ p, p ∈ L.map (·.1) ↔ p ∈ vsf R
theorem LisAt.nd {G : Hp} {a : Addr} {L : List (Str × List Int)} (h : LisAt K G a L) : (L.map (·.1)).Nodup := by obtain ⟨_, _, _, h⟩ := h; exact h
def spWantLists (K : PySem.W.Frag) (C CP : Addr) : Sp := fun vs H Q E => ∃ (x la : Addr) (R : List Row) (L : List (Str × List Int)), vs = [.ref x, .ref la] ∧ WebAt K C H x R ∧ (vsf R).Nodup ∧ R.length ≤ 60 ∧ LisAt K H la L ∧ L.length ≤ 60 ∧
  (KeysW R L → ∀ H', Same H H' → Q .non H') ∧ (¬ KeysW R L → ∀ H', Same H H' → E (.ref CP) none H')
theorem okX_want_lists (T : Txt K mg C cx) : CalX P w K mg base 2 "want_lists" (spWantLists K C (cx 5)) := by
  refine calX_of T.d_want_lists sc_want_lists (fun vs H Q E h => ?_) (fun f cdv A outer s H vs Q E hr h => ?_)
  · obtain ⟨x, la, R, L, rfl, _⟩ := h
    rfl
  · obtain ⟨x, la, R, L, rfl, hw, hnd, hR60, hL, hL60, k1, k2⟩ := h
    refine ⟨_, (pss_one (ps_if (pt_cmpR (op_setNe (Nat.lt_of_succ_lt (hu_of hr))) (pe_callTy (cr_setT) (by rfl) T.n_set (by decide +kernel) (pa_cons (pv 1) pa_nil)) (pe_callTy (cr_setT) (by rfl) T.n_set (by decide +kernel) (pa_cons (pe_mt0 (ok_Web_places T) hr (by decide) (pv 0)) pa_nil)) (nomark _)) (pss_one (L2N.ps_raise rfl (L2N.takes_of rfl rfl rfl rfl) (L2N.pmk_own PySem.F.excBase_ValueError T.x_NoPlace.x T.x_NoPlace.g T.x_NoPlace.k (raises_own T.x_NoPlace.b T.x_NoPlace.t) rfl))) pss_nil)), ?_⟩
    obtain ⟨kvs, hk, ek⟩ := hL.is
    have eks : kvs.map (·.1) = (L.map (·.1)).map Sum.inr := by rw [ek, List.map_map]; rfl
    refine ⟨_, rfl, la, L.map (·.1), rfl, hL.nd, by rw [List.length_map]; exact hL60, .inr ⟨kvs, hk, eks⟩, fun sa hsa => ?_⟩
    have s1 : Same H (upd H sa (SetK P w sa (inK ((L.map (·.1)).map Sum.inr)) (L.map (·.1)).length)) := .new hsa
    have hA : upd H sa (SetK P w sa (inK ((L.map (·.1)).map Sum.inr)) (L.map (·.1)).length) sa = some (SetK P w sa (inK ((L.map (·.1)).map Sum.inr)) (L.map (·.1)).length) := upd_same
    have hw1 : WebAt K C (upd H sa (SetK P w sa (inK ((L.map (·.1)).map Sum.inr)) (L.map (·.1)).length)) x R := up s1 hw
    obtain ⟨wx, wdd, h1, _⟩ := hw1.rds
    refine ⟨_, rfl, x, wx, _, rfl, h1, rfl, x, R, rfl, hw1, fun p1 hp1 => ?_⟩
    refine ⟨p1, vsf R, rfl, hnd, by rw [List.length_map]; exact hR60, .inl (SqL.of upd_same), fun sb hsb => ?_⟩
    have s03 := (s1.trans (.new (o := .lst ((vsf R).map V.str)) hp1)).trans (.new (o := SetK P w sb (inK ((vsf R).map Sum.inr)) (vsf R).length) hsb)
    refine ⟨sa, sb, L.map (·.1), vsf R, rfl, rfl, (Same.new (o := SetK P w sb (inK ((vsf R).map Sum.inr)) (vsf R).length) hsb) _ _ ((Same.new (o := .lst ((vsf R).map V.str)) hp1) _ _ upd_same), upd_same, hL.nd, hnd, fun r hr => ⟨_, rfl, ?_⟩⟩
    cases r with
    | true => exact iteF (k1 (hr.mp rfl) _ s03)
    | false => exact iteT (k2 (fun z => nomatch (hr.mpr z)) _ s03)
theorem flat_take {α : Type} (cs : List (List α)) (k : Nat) : (cs.take k).flatten.Sublist cs.flatten := by
  conv => rhs; rw [← List.take_append_drop k cs, List.flatten_append]
  exact List.sublist_append_left _ _
theorem fromF_cons {rd : Str → List Str} {ls : Str → List Int} {n : Nat} {c : List Str} {t : List (List Str)} {acc : List (Str × Int)} : fromF rd ls n (c :: t) acc = match srchF rd ls n [] c with
    | .hues x => fromF rd ls n t (acc ++ x)
    | .cho e => .cho e := rfl
theorem flat_srt : ∀ ps : List (List Str), (ps.map srt).flatten.Perm ps.flatten
  | [] => .refl _
  | c :: ps => by
    rw [List.map_cons, List.flatten_cons, List.flatten_cons]
    exact (srt_perm c).append (flat_srt ps)
/-- what from_lists tells, made anew -/
inductive FrN (H H' : Hp) : V → SR → Prop
  | hues {t d : Addr} {x : List (Str × Int)} : H t = none → H' t = some (.tup [.str "hues", .ref d]) → H d = none → H' d = some (.dK (dk V.int x)) → (ks x).Nodup → FrN H H' (.ref t) (.hues x)
  | cho {t : Addr} {u : V} {e : PyData} {As : List Addr} : H t = none → H' t = some (.tup [.str "choice", u]) → ChW (nw H H') u e As → As.Nodup → FrN H H' (.ref t) (.cho e)
theorem FrN.back {H H1 H' : Hp} {v : V} {r : SR} (s : Same H H1) (h : FrN H1 H' v r) : FrN H H' v r := by
  cases h with
  | hues a b c d e => exact .hues (s.free a) b (s.free c) d e
  | cho a b c d => exact .cho (s.free a) b (ChW.s (nw_back s) c) d
def toldF (R : List Row) (ls : Str → List Int) (ps : List (List Str)) : SR := fromF (rdf R) ls 12 (srt (ps.map srt)) []
def spFromLists (K : PySem.W.Frag) (C CP CT : Addr) : Sp := fun vs H Q E => ∃ (x la : Addr) (R : List Row) (L : List (Str × List Int)) (ps : List (List Str)), vs = [.ref x, .ref la] ∧ WebAt K C H x R ∧ RowsOk R ∧ LisAt K H la L ∧ (∃ kvs, H la = some (.dK kvs)) ∧ L.length ≤ 60 ∧ (∀ p ∈ vsf R, (lsF L p).length ≤ 10) ∧ CD (vsf R) (rdf R) ps ∧
  (¬ KeysW R L → ∀ H', Same H H' → E (.ref CP) none H') ∧ (KeysW R L → 12 < L.length → ∀ H', Same H H' → E (.ref CT) none H') ∧
  (KeysW R L → L.length ≤ 12 → ∀ (v : V) (H' : Hp), Same H H' → FrN H H' v (toldF R (lsF L) ps) → Q v H')
theorem okX_from_lists (T : Txt K mg C cx) : CalX P w K mg base 20 "from_lists" (spFromLists K C (cx 5) (cx 6)) := by
  refine calX_of T.d_from_lists sc_from_lists (fun vs H Q E h => ?_) (fun f cdv A outer s H vs Q E hr h => ?_)
  · obtain ⟨x, la, R, L, ps, rfl, _⟩ := h
    rfl
  · obtain ⟨x, la, R, L, ps, rfl, hw, ok, hL, ⟨kv0, hk0⟩, hL60, hl10, Cd, k1, k2, k3⟩ := h
    refine ⟨_, (pss_cons (ps_expr (pe_cX (okX_want_lists T) hr (by decide) (by rfl) (fun σ => L2N.passAt (L2N.takes_of rfl rfl rfl rfl) σ) (pa_cons (pv 0) (pa_cons (pv 1) pa_nil))))
      (pss_cons (ps_if (pt_cmpR op_gt (pe_callB call_lenD (by rfl) T.n_len (by decide +kernel) (pa_cons (pv 1) pa_nil)) (pe_gc (by rfl) T.g_MOST_PLACES) (nomark _)) (pss_one (L2N.ps_raise rfl (L2N.takes_of rfl rfl rfl rfl) (L2N.pmk_own PySem.F.excBase_ValueError T.x_TooMany.x T.x_TooMany.g T.x_TooMany.k (raises_own T.x_TooMany.b T.x_TooMany.t) rfl))) pss_nil)
      (pss_cons (ps_set (i := 2) sc_from_lists.nd rfl (Or.inl rfl) pe_dnewK)
      (pss_cons (ps_for (passes_of rfl) (by rfl) (pi_list (pe_c (ok_pieces T) hr (by decide) (by rfl) (pa_cons (pv 0) pa_nil))) (pg_name (i := 3) sc_from_lists.nd rfl (Or.inl rfl)) (pss_cons (ps_asg (pe_c (ok_searched T) hr (by decide) (by rfl) (pa_cons (pv 0) (pa_cons (pv 1) (pa_cons pe_dnewK (pa_cons (pv 3) pa_nil))))) (pg_tupK (K := K) 2 (by rfl) (pgs_cons (pg_name (i := 4) sc_from_lists.nd rfl (Or.inl rfl)) (pgs_cons (pg_name (i := 5) sc_from_lists.nd rfl (Or.inl rfl)) pgs_nil))))
      (pss_cons (ps_if (pt_cmpR op_eq (pv 4) pe_str (nomark _)) (pss_one (ps_ret (pe_tup (pa_cons (pv 4) (pa_cons (pv 5) pa_nil))))) pss_nil)
      (pss_one (ps_expr (pe_bm PySem.F.plainAttrs_dict PySem.F.slot_dict_update PySem.F.type_dict_update mt_updateD (pv 2) (pa_cons (pv 5) pa_nil)))))))
      (pss_one (ps_ret (pe_tup (pa_cons pe_str (pa_cons (pv 2) pa_nil))))))))), ?_⟩
    refine ⟨_, rfl, _, rfl, x, la, R, L, rfl, hw, ok.pl.wf.nd, ok.len, hL, hL60, fun hKW H1 s1 => ?_, fun hKW => k1 hKW⟩
    have k2 := k2 hKW
    have k3 := k3 hKW
    have hvl : (vsf R).length = L.length := by
      have := (perm_of_mem hL.nd ok.pl.wf.nd hKW).length_eq
      rw [List.length_map] at this
      exact this.symm
    obtain ⟨kvs, hkr, ek⟩ := (hL.s s1).is
    have hk : H1 la = some (.dK kvs) := by
      rcases hkr with h | ⟨o, h⟩
      · exact h
      · rw [s1 _ _ hk0] at h; cases h
    have ekl : kvs.length = L.length := by have := congrArg List.length ek; simpa using this
    refine ⟨_, rfl, la, kvs, rfl, hk, _, _, rfl, rfl, _, rfl, ?_⟩
    rw [ekl]
    by_cases h12 : 12 < L.length
    · exact iteYes (by omega) (k2 h12 _ s1)
    refine iteNo (by omega) ?_
    have k3 := k3 (by omega)
    intro fd hfd
    have s2 : Same H1 (upd H1 fd (.dK [])) := .new hfd
    have hfd2 : upd H1 fd (.dK []) fd = some (.dK (dk V.int ([] : List (Str × Int)))) := upd_same
    have hfd0 : H fd = none := s1.free hfd
    generalize upd H1 fd (.dK []) = H2 at *
    have s02 := s1.trans s2
    refine ⟨_, rfl, x, R, ps, rfl, up (R := WebAt K C) s02 hw, ok.nm, ok.pl.wf.nd, Cd, ok.len, fun pl H3 s3 hpl => ?_⟩
    obtain ⟨as, ha1, ha2⟩ := hpl
    have hpl3 := (nw_get ha1).2
    have hpl20 := (nw_get ha1).1
    have npf : pl ≠ fd := fun e => by rw [e, hfd2] at hpl20; cases hpl20
    have hcs : ∀ c ∈ srt (ps.map srt), ∃ c0 ∈ ps, c.Perm c0 := fun c hc => by
      obtain ⟨c0, h1, rfl⟩ := List.mem_map.mp (srt_mem.mp hc)
      exact ⟨c0, h1, srt_perm _⟩
    have hfl : (srt (ps.map srt)).flatten.Perm (vsf R) := by
      exact ((srt_perm (ps.map srt)).flatten).trans ((flat_srt ps).trans Cd.perm)
    generalize hcsE : srt (ps.map srt) = cs at *
    have hcl : ∀ c ∈ cs, c.length ≤ 12 := fun c hc => by
      have := (List.sublist_flatten_of_mem hc).length_le
      have h2 := hfl.length_eq
      omega
    have hcv : ∀ c ∈ cs, ∀ v ∈ c, v ∈ vsf R := fun c hc v hv => hfl.mem_iff.mp (List.mem_flatten.mpr ⟨c, hc, hv⟩)
    have hnf : cs.flatten.Nodup := hfl.nodup_iff.mpr ok.pl.wf.nd
    have hcn : ∀ c ∈ cs, c.Nodup := fun c hc => (List.sublist_flatten_of_mem hc).nodup hnf
    have W : LisW (rdf R) (vsf R) (lsF L) := ⟨fun p hp o ho => let ⟨a, b, c⟩ := ok.pl.wf.ties p hp o ho; ⟨a, c, b⟩, ok.nm, hl10⟩
    have hH23 : ∀ {G : Hp}, Same (wo H3 [fd]) G → Same H G := fun {G} a b o e => a _ _ (by
      rw [wo_out (by simpa using ne_of_none e hfd0)]
      exact (s02.trans s3) _ _ e)
    have hasl : as.length = cs.length := Paired.length ha2
    refine ⟨pl, rfl, ⟨_, SqL.of hpl3⟩, for_list (K := K) (a := pl) (xs := as.map V.ref) (fun i σ G => ∃ (y3 y4 y5 : Option V) (acc : List (Str × Int)), σ = [some (.ref x), some (.ref la), some (.ref fd), y3, y4, y5] ∧ Same (wo H3 [fd]) G ∧ G fd = some (.dK (dk V.int acc)) ∧ (ks acc).Perm (cs.take i).flatten ∧ fromF (rdf R) (lsF L) 12 cs [] = fromF (rdf R) (lsF L) 12 (cs.drop i) acc) ?_ ?_ ?_ ?_⟩
    · exact ⟨_, _, _, [], rfl, wo_same, s3 _ _ hfd2, by simp [ks], by rw [List.drop_zero]⟩
    · rintro i σ G _ ⟨_, _, _, _, _, a, _⟩
      exact SqL.of (a _ _ (by rw [wo_out (by simpa using npf)]; exact hpl3))
    · rintro i z σ G hi ⟨y3, y4, y5, acc, rfl, sG, hfG, hpm, hfr⟩
      obtain ⟨ca, hca, rfl⟩ := item_ref hi
      have hil : i < cs.length := by
        have := (List.getElem?_eq_some_iff.mp hca).1
        omega
      have hci : cs[i]? = some cs[i] := List.getElem?_eq_getElem hil
      have hcm : cs[i] ∈ cs := List.getElem_mem hil
      obtain ⟨y, hy, hyl⟩ := paired_get ha2 i ca hca
      have ey : y = cs[i] := by rw [hci] at hy; exact (Option.some.inj hy).symm
      subst ey
      have hlc : H3 ca = some (.lst (cs[i].map V.str)) := (nw_get hyl).2
      have hca20 := (nw_get hyl).1
      have ncf : ca ≠ fd := fun e => by rw [e, hfd2] at hca20; cases hca20
      have hdr : cs.drop i = cs[i] :: cs.drop (i + 1) := List.drop_eq_getElem_cons hil
      rw [hdr] at hfr
      generalize cs[i] = c at *
      have sHG := hH23 sG
      refine ⟨_, rfl, _, rfl, fun nd hnd => ?_⟩
      have s4 : Same G (upd G nd (.dK [])) := .new hnd
      have hnd4 : upd G nd (.dK []) nd = some (.dK (dk V.int ([] : List (Str × Int)))) := upd_same
      have nnf : nd ≠ fd := fun e => by rw [e, hfG] at hnd; cases hnd
      generalize upd G nd (.dK []) = G1 at *
      have sHG1 := sHG.trans s4
      refine ⟨_, rfl, x, la, nd, ca, R, L, [], c, rfl, up (R := WebAt K C) sHG1 hw, hL.s sHG1, hKW, fun p hp => Nat.le_trans (hl10 p hp) (by decide), hnd4, List.nodup_nil, SqL.of (s4 _ _ (sG _ _ (by rw [wo_out (by simpa using ncf)]; exact hlc))), hcl c hcm, by decide, hcn c hcm, fun p hp => ⟨hcv c hcm p hp, fun z => nomatch z⟩, fun v G2 s5 hsr => ?_⟩
      have hf2 := s5 _ _ (s4 _ _ hfG)
      have sHG2 := sHG1.trans s5
      have key := srch_ok W 12 [] c (hcl c hcm) (hcn c hcm) List.nodup_nil (fun q hq => ⟨hcv c hcm q hq, fun z => nomatch z⟩) (fun q hq => nomatch hq) (fun p hp => nomatch hp)
      rw [fromF_cons] at hfr
      generalize hsv : srchF (rdf R) (lsF L) 12 [] c = sr at hsr hfr key
      cases hsr with
      | @hues t d xx h1 h2 h3 h4 =>
        have ndf : d ≠ fd := by
          rcases h4 with h4 | h4
          · rw [h4]; exact nnf
          · exact fun e => by rw [e, s4 _ _ hfG] at h4; cases h4
        have kx : (ks xx).Perm c := key.1
        have hkn : (ks (acc ++ xx)).Nodup := by
          rw [ks_appH]
          have hp : (ks acc ++ ks xx).Perm (cs.take (i + 1)).flatten := by
            rw [take_snoc hci, List.flatten_append]
            refine hpm.append (kx.trans ?_)
            simp
          exact hp.nodup_iff.mpr ((flat_take cs (i + 1)).nodup hnf)
        have hal : acc.length + xx.length ≤ sizeLine := by
          have e1 := hpm.length_eq
          have e2 := kx.length_eq
          rw [ks_length] at e1 e2
          have e3 := (flat_take cs i).length_le
          have e4 := hfl.length_eq
          have e5 := hcl c hcm
          exact Nat.le_trans (show acc.length + xx.length ≤ 60 by omega) (by decide)
        refine ⟨t, _, rfl, SqT.of h1, rfl, _, _, rfl, _, _, rfl, rfl, ?_⟩
        refine ⟨_, rfl, rfl, _, rfl, iteNo (fun z => absurd (V.str.inj z) (by decide +kernel)) ?_⟩
        refine ⟨_, rfl, .inr (.inr (.inl ⟨rfl, .inl ⟨_, hf2⟩⟩)), _, rfl, fd, d, _, _, rfl, rfl, ndf.symm, hf2, h2, by unfold dk; rw [List.length_map, List.length_map]; exact hal, ?_⟩
        refine ⟨_, _, _, acc ++ xx, rfl, ?_, by rw [upd_same, mergeK_dk hkn], ?_, hfr⟩
        · refine Same.mut (fun b o e => s5 _ _ (s4 _ _ (sG _ _ e))) (wo_in (by simp))
        · rw [ks_appH, take_snoc hci, List.flatten_append]
          refine hpm.append (kx.trans ?_)
          simp
      | @cho t u e As h1 h2 hAn =>
        refine ⟨t, _, rfl, SqT.of h1, rfl, _, _, rfl, _, _, rfl, rfl, ?_⟩
        refine ⟨_, rfl, rfl, _, rfl, iteYes rfl ⟨_, rfl, _, rfl, by show 2 ≤ sizeLine; decide, fun t' ht' => ?_⟩⟩
        refine k3 _ _ (sHG2.trans (.new ht')) ?_
        show FrN _ _ _ (fromF (rdf R) (lsF L) 12 (srt (ps.map srt)) [])
        rw [hcsE, hfr]
        refine .cho (sHG2.free ht') upd_same (ChW.s (fun b o q => ?_) h2) hAn
        obtain ⟨q1, q2⟩ := nw_get q
        rw [nw_of (sHG1.free q1)]
        exact Same.new ht' _ _ q2
    · rintro σ G ⟨y3, y4, y5, acc, rfl, sG, hfG, hpm, hfr⟩
      rw [List.length_map, hasl, List.drop_length] at hfr
      have sHG := hH23 sG
      refine ⟨_, rfl, by show 2 ≤ sizeLine; decide, fun t' ht' => ?_⟩
      refine k3 _ _ (sHG.trans (.new ht')) ?_
      show FrN _ _ _ (fromF (rdf R) (lsF L) 12 (srt (ps.map srt)) [])
      rw [hcsE, hfr]
      refine .hues (sHG.free ht') upd_same hfd0 (Same.new ht' _ _ hfG) ?_
      rw [List.length_map, hasl, List.take_length] at hpm
      exact hpm.nodup_iff.mpr hnf
end
end Five
end
section
namespace Five
open PySem PySem.Spec PyProof.Rows L2
theorem told_right {R : List Row} {ls : Str → List Int} {ps : List (List Str)} (ok : RowsOk R) (Cd : CD (vsf R) (rdf R) ps) (hl10 : ∀ p ∈ vsf R, (ls p).length ≤ 10) (h12 : R.length ≤ 12) :
    match toldF R ls ps with
    | .hues x => (ks x).Perm (vsf R) ∧ RightH (rdf R) ls x
    | .cho e => Cw 11 e ∧ ∀ m, 12 ≤ m → readF (rdf R) (vsf R) ls m [] e = true := by
  have hcs : ∀ c ∈ srt (ps.map srt), ∃ c0 ∈ ps, c.Perm c0 := fun c hc => by
    obtain ⟨c0, h1, rfl⟩ := List.mem_map.mp (srt_mem.mp hc)
    exact ⟨c0, h1, srt_perm _⟩
  have hfl : (srt (ps.map srt)).flatten.Perm (vsf R) := ((srt_perm (ps.map srt)).flatten).trans ((flat_srt ps).trans Cd.perm)
  have hnf : (srt (ps.map srt)).flatten.Nodup := hfl.nodup_iff.mpr ok.pl.wf.nd
  have W : LisW (rdf R) (vsf R) ls := ⟨fun p hp o ho => let ⟨a, b, c⟩ := ok.pl.wf.ties p hp o ho; ⟨a, c, b⟩, ok.nm, hl10⟩
  have key := from_ok (rd := rdf R) (ls := ls) W (n := 12) (srt (ps.map srt)) [] (by simpa [ks] using hnf) (fun v hv => hfl.mem_iff.mp (by simpa [ks] using hv)) (fun c hc => by
      obtain ⟨c0, h1, h2⟩ := hcs c hc
      refine ⟨fun e => (Cd.conn c0 h1).1 (by rw [e] at h2; exact h2.symm.eq_nil), ?_⟩
      have := (List.sublist_flatten_of_mem hc).length_le
      have h3 := hfl.length_eq
      rw [List.length_map] at h3
      omega) (fun c hc v hv u hu => by
      obtain ⟨c0, h1, h2⟩ := hcs c hc
      exact h2.mem_iff.mpr (Cd.shut c0 h1 v (h2.mem_iff.mp hv) u hu)) (fun v hv => nomatch hv) (fun p hp => nomatch hp)
  unfold toldF
  cases hr : fromF (rdf R) ls 12 (srt (ps.map srt)) [] with
  | hues x =>
    rw [hr] at key
    refine ⟨key.1.trans ?_, key.2⟩
    simpa [ks] using hfl
  | cho e =>
    rw [hr] at key
    exact key
theorem RightH.congr {rd rd' : Str → List Str} {ls : Str → List Int} {x : List (Str × Int)} (h : RightH rd ls x) (hr : ∀ p ∈ ks x, ∀ o, o ∈ rd' p → o ∈ rd p) : RightH rd' ls x := fun p hp => ⟨(h p hp).1, fun o ho => (h p hp).2 o (hr p hp o ho)⟩
theorem pair_lay {k : Str} {e : PyData} {n : Nat} (hk : PyData.canLay0 (.str k) = true) (q : e.canLay0 = true ∧ e.depth ≤ n) : PyData.canLay0 (.tuple [.str k, e]) = true ∧ PyData.depth (.tuple [.str k, e]) ≤ n + 1 := by
  refine ⟨?_, ?_⟩
  · rw [PyData.canLay0, PyData.canLayAll0, PyData.canLayAll0, PyData.canLayAll0, hk, q.1]
    rfl
  · simp [PyData.depth, PyData.depthAll]
    omega
theorem pair_eq {k : Str} {e : PyData} {n : Nat} (hn : n < 60) (hk : PyData.canLay0 (.str k) = true) (q : e.canLay0 = true ∧ e.depth ≤ n) : SeqAt.shaped (.tuple [.str k, e]) = true ∧ PyData.eqv (.tuple [.str k, e]) (.tuple [.str k, e]) = true := by
  obtain ⟨a, b⟩ := pair_lay hk q
  refine ⟨?_, SeqAt.eqv_refl _ a⟩
  unfold SeqAt.shaped
  rw [a]
  simp
  omega
end Five
end
section
namespace Five
open PySem PySem.Spec PyProof.Rows L2
theorem FrN.nod {H G : Hp} {v : V} {r : SR} {d : Addr} (h : FrN H G v r) (hd : H d ≠ none) : ∀ (t : Addr) (kd : Str) (fd : Addr), v = .ref t → G t = some (.tup [.str kd, .ref fd]) → fd ≠ d := fun t kd fd e ht q => by
  subst q
  cases h with
  | hues h1 h2 h3 h4 h5 =>
    cases e
    rw [h2] at ht
    cases ht
    exact hd h3
  | cho h1 h2 h3 h4 =>
    cases e
    rw [h2] at ht
    cases ht
    cases h3 with
    | td a => exact hd (nw_get a).1
    | ch a b c => exact hd (nw_get a).1
theorem FrN.new_t {H G : Hp} {v : V} {r : SR} {t : Addr} (h : FrN H G v r) (e : v = .ref t) : H t = none := by
  cases h with
  | hues h1 => cases e; exact h1
  | cho h1 => cases e; exact h1
theorem joinS {s1 s2 : TS} {D : Ends} {σ : L2.St} {H : Hp} (Pd : L2.St → Hp → Prop) (hA : (∀ σ' H', Pd σ' H' → s2 D σ' H') → s1 { D with nx := s2 D } σ H) (rest : ∀ σ' H', Pd σ' H' → s2 D σ' H') : tSeq s1 s2 D σ H := hA rest
theorem joinS2 {s1 s2 s3 : TS} {D : Ends} {σ : L2.St} {H : Hp} (Pd : L2.St → Hp → Prop) (hA : (∀ σ' H', Pd σ' H' → s3 D σ' H') → tSeq s1 s2 { D with nx := s3 D } σ H) (rest : ∀ σ' H', Pd σ' H' → s3 D σ' H') : tSeq s1 (tSeq s2 s3) D σ H := hA rest
theorem joinS3 {s1 s2 s3 s4 : TS} {D : Ends} {σ : L2.St} {H : Hp} (Pd : L2.St → Hp → Prop) (hA : (∀ σ' H', Pd σ' H' → s4 D σ' H') → tSeq s1 (tSeq s2 s3) { D with nx := s4 D } σ H) (rest : ∀ σ' H', Pd σ' H' → s4 D σ' H') : tSeq s1 (tSeq s2 (tSeq s3 s4)) D σ H := hA rest
theorem joinS4 {s1 s2 s3 s4 s5 : TS} {D : Ends} {σ : L2.St} {H : Hp} (Pd : L2.St → Hp → Prop) (hA : (∀ σ' H', Pd σ' H' → s5 D σ' H') → tSeq s1 (tSeq s2 (tSeq s3 s4)) { D with nx := s5 D } σ H) (rest : ∀ σ' H', Pd σ' H' → s5 D σ' H') : tSeq s1 (tSeq s2 (tSeq s3 (tSeq s4 s5))) D σ H := hA rest
section
variable {K : PySem.W.Frag}
/-- a told tuple, as it stands -/
def TdAt (K : PySem.W.Frag) (G : Hp) (v : V) : SR → Prop
  | .hues x => ∃ t d, v = .ref t ∧ G t = some (.tup [.str "hues", .ref d]) ∧ G d = some (.dK (dk V.int x)) ∧ (ks x).Nodup
  | .cho e => ∃ t u, v = .ref t ∧ G t = some (.tup [.str "choice", u]) ∧ Dp K G u e
theorem FrN.td {H G G' : Hp} {v : V} {r : SR} (h : FrN H G v r) (s : Same (nw H G) G') : TdAt K G' v r := by
  cases h with
  | hues h1 h2 h3 h4 h5 => exact ⟨_, _, rfl, s _ _ (by rw [nw_of h1]; exact h2), s _ _ (by rw [nw_of h3]; exact h4), h5⟩
  | cho h1 h2 h3 h4 => exact ⟨_, _, rfl, s _ _ (by rw [nw_of h1]; exact h2), (h3.s s).dp⟩
theorem td_move {G : Hp} {t t' : Addr} {kd : Str} {u : V} {r : SR} (h : TdAt K G (.ref t) r) (h1 : G t = some (.tup [.str kd, u])) (h2 : G t' = some (.tup [.str kd, u])) : TdAt K G (.ref t') r := by
  cases r with
  | hues x =>
    obtain ⟨t0, d0, e, a, b, c⟩ := h
    cases e
    rw [a] at h1
    cases h1
    exact ⟨t', d0, rfl, h2, b, c⟩
  | cho e =>
    obtain ⟨t0, u0, q, a, b⟩ := h
    cases q
    rw [a] at h1
    cases h1
    exact ⟨t', _, rfl, h2, b⟩
theorem nm_choice : Nm "choice" := ⟨by decide, by decide, by decide +kernel⟩
theorem ne_td {G : Hp} {v v' : V} {r : SR} {Q : VK} (h1 : TdAt K G v r) (h2 : TdAt K G v' r) (hc : ∀ e, r = .cho e → Cw 11 e) (q : Q (.bl false) G) : rOr (rNeTW K) (rNeD K) v v' G Q := by
  cases r with
  | hues x =>
    obtain ⟨t, d, rfl, a1, a2, a3⟩ := h1
    obtain ⟨t', d', rfl, b1, b2, b3⟩ := h2
    refine .inl ⟨t, t', d, d', "hues", _, _, rfl, rfl, SqT.of a1, SqT.of b1, a2, b2, rfl, fun p hp => ?_, q⟩
    obtain ⟨y, hy, rfl⟩ := List.mem_map.mp hp
    exact ⟨valV_dk_some a3 hy, rfl⟩
  | cho e =>
    obtain ⟨t, u, rfl, a1, a2⟩ := h1
    obtain ⟨t', u', rfl, b1, b2⟩ := h2
    obtain ⟨sh, eq⟩ := pair_eq (k := "choice") (by decide) nm_choice.ok (Wy.lay (hc e rfl).wy)
    refine .inr ⟨_, _, .tup (SqT.of a1) (.cons (.str _) (.cons a2 .nil)), .tup (SqT.of b1) (.cons (.str _) (.cons b2 .nil)), sh, sh, ?_⟩
    rw [eq]
    exact q
end
theorem srt_idem {l : List Str} : srt (srt l) = srt l := srt_congr (srt_perm l)
end Five
end
section
namespace Five
open PySem PySem.Spec PyProof.Rows L2
theorem sq_natI {n j : Nat} (h : j < n) : seqIndex? (j : Int) n = some j := by
  unfold seqIndex?
  simp
  omega
theorem dk_app {α : Type} {c : α → V} (a b : List (Str × α)) : dk c (a ++ b) = dk c a ++ dk c b := by unfold dk; rw [List.map_append]
section
variable {P : Program} {w : World} {K : PySem.W.Frag} {mg : Str → Option Value} {base : Heap} {C : Addr} {cx : Nat → Addr}
def spLists (K : PySem.W.Frag) : Sp := fun vs H Q _ => ∃ (p d : Addr) (W : List Row), vs = [.ref p, .ref d] ∧ GD K p d H W ∧ PotAt H p ∧ d ≠ p ∧ W.length ≤ 60 ∧ (vsf W).Nodup ∧
  ∀ (la : Addr) (L : List (Str × List Int)) (H' : Hp), Dr p H H' → H la = none → LisAt K (wo H' [p]) la L → L.map (·.1) = srt (vsf W) → (∀ l ∈ L, l.2.length ≤ 3) → (∃ kvs, H' la = some (.dK kvs)) → la ≠ p → Q (.ref la) H'
theorem ok_law_lists (T : Txt K mg C cx) : Cal P w K mg base 2 "_law_lists" (spLists K) := by
  refine cal_of T.d_law_lists sc_law_lists (fun vs H Q E h => ?_) (fun f cdv A outer s H vs Q E hr h => ?_)
  · obtain ⟨p, d, W, rfl, _⟩ := h
    rfl
  · obtain ⟨p, d, W, rfl, hg, pot, ndp, hlen, hnd, kk⟩ := h
    refine ⟨_, (pss_cons (ps_set (i := 2) sc_law_lists.nd rfl (Or.inl rfl) pe_dnewK)
      (pss_cons (ps_set (i := 3) sc_law_lists.nd rfl (Or.inl rfl) (pe_op op_add pe_int (pe_c (ok_law_take T) hr (by decide) (by rfl) (pa_cons (pv 0) (pa_cons pe_int pa_nil)))))
      (pss_cons (ps_for PassesOwn.never (by rfl) (pi_list (pe_callB (call_srtD rfl) (by rfl) T.n_sorted (by decide +kernel) (pa_cons (pv 1) pa_nil))) (pg_name (i := 4) sc_law_lists.nd rfl (Or.inl rfl)) (pss_cons (ps_set (i := 5) sc_law_lists.nd rfl (Or.inl rfl) (pe_slice (sl_listK (K := K)) (pe_lst (pa_cons pe_int (pa_cons pe_int (pa_cons pe_int (pa_cons pe_int (pa_cons pe_int (pa_cons (pe_op op_pow pe_int pe_int) pa_nil))))))) po_none (po_some (pe_op op_add (pv 3) (pe_c (ok_law_take T) hr (by decide) (by rfl) (pa_cons (pv 0) (pa_cons pe_int pa_nil)))))))
      (pss_cons (ps_set (i := 6) sc_law_lists.nd rfl (Or.inl rfl) (pe_lst pa_nil))
      (pss_cons (ps_for PassesOwn.never (by rfl) (pi_range1 (by rfl) T.n_range (pa_cons (pe_ix (ix_listK (K := K)) (pe_lst (pa_cons pe_int (pa_cons pe_int (pa_cons pe_int (pa_cons pe_int (pa_cons pe_int (pa_cons pe_int (pa_cons pe_int pa_nil)))))))) (pe_c (ok_law_take T) hr (by decide) (by rfl) (pa_cons (pv 0) (pa_cons pe_int pa_nil))) (fun _ _ => rfl)) pa_nil)) (pg_name (i := 7) sc_law_lists.nd rfl (Or.inl rfl)) (pss_one (ps_if (pt_cmpR (op_neK (K := K) (List Int) hr.units) (pv 5) (pe_lst pa_nil) (nomark _)) (pss_one (ps_expr (pe_bm PySem.F.plainAttrs_list PySem.F.slot_list_append PySem.F.type_list_append mt_append (pv 6) (pa_cons (pe_bm PySem.F.plainAttrs_list PySem.F.slot_list_pop PySem.F.type_list_pop mt_popAt (pv 5) (pa_cons (pe_c (ok_law_take T) hr (by decide) (by rfl) (pa_cons (pv 0) (pa_cons (pe_callB (call_lenK (K := K)) (by rfl) T.n_len (by decide +kernel) (pa_cons (pv 5) pa_nil)) pa_nil))) pa_nil)) pa_nil)))) pss_nil)))
      (pss_one (ps_dput (hu_of hr) (pv 2) (pv 4) (pv 6) rfl))))))
      (pss_one (ps_ret (pv 2)))))), ?_⟩
    intro fd hfd
    have nfp : fd ≠ p := fun e => pot.ne (by rw [← e]; exact hfd)
    have nfd : fd ≠ d := fun e => hg.ne (by rw [← e]; exact hfd)
    have s1 : Same H (upd H fd (.dK [])) := .new hfd
    have hf1 : upd H fd (.dK []) fd = some (.dK (dk V.ref ([] : List (Str × Addr)))) := upd_same
    have pot1 := pot.same s1
    have hg1 := hg.same s1
    generalize upd H fd (.dK []) = H1 at *
    refine ⟨_, rfl, p, 3, rfl, pot1, by decide, by decide, fun n1 H2 h10 h11 d2 => ⟨_, _, rfl, rfl, ?_⟩⟩
    have hg2 := hg1.dr ndp d2
    have hf2 := d2.get nfp hf1
    obtain ⟨kvs, hk1, hkP⟩ := id hg2
    have hvl : (vsf W).length ≤ 60 := by rw [List.length_map]; exact hlen
    refine ⟨_, rfl, d, kvs, vsf W, rfl, .inl hk1, rds_keys (Paired.mapP hkP fun _ _ q => rowKV_up wo_same.sm q), Nat.lt_of_le_of_lt hvl (by decide), fun sl hsl => ?_⟩
    have s3 : Same H2 (upd H2 sl (.lst ((srt (vsf W)).map V.str))) := .new hsl
    have hsl3 : upd H2 sl (.lst ((srt (vsf W)).map V.str)) sl = some (.lst ((srt (vsf W)).map V.str)) := upd_same
    have nsp : sl ≠ p := fun e => d2.pot.ne (by rw [← e]; exact hsl)
    have nsf : sl ≠ fd := fun e => by rw [e, hf2] at hsl; cases hsl
    have pot3 := d2.pot.same s3
    have hf3 := s3 _ _ hf2
    have d13 := d2.same s3
    generalize upd H2 sl (.lst ((srt (vsf W)).map V.str)) = H3 at *
    have hsn : (srt (vsf W)).Nodup := (srt_perm _).nodup_iff.mpr hnd
    have hsl60 : (srt (vsf W)).length ≤ 60 := by rw [srt_length]; exact hvl
    refine ⟨sl, rfl, ⟨_, SqL.of hsl3⟩, for_list (K := K) (a := sl) (xs := (srt (vsf W)).map V.str) (fun i σ H' => ∃ (y4 y5 y6 y7 : Option V) (hb : List (Str × Addr)) (L : List (Str × List Int)), σ = [some (.ref p), some (.ref d), some (.ref fd), some (.int (2 + n1)), y4, y5, y6, y7] ∧ D2 p fd H3 H' ∧ H' fd = some (.dK (dk V.ref hb)) ∧ Paired (fun b l => b.1 = l.1 ∧ SqL K (wo H' [p, fd]) b.2 (l.2.map V.int)) hb L ∧ L.map (·.1) = (srt (vsf W)).take i ∧ ∀ l ∈ L, l.2.length ≤ 3) ?_ ?_ ?_ ?_⟩
    · exact ⟨_, _, _, _, [], [], rfl, .refl pot3, hf3, .nil, rfl, fun l h => nomatch h⟩
    · rintro i σ H' _ ⟨_, _, _, _, hb, L, _, a, _⟩
      exact SqL.of (a.get nsf nsp hsl3)
    · rintro i z σ H4 hi ⟨y4, y5, y6, y7, hb, L, rfl, a4, hf4, hP4, hL4, h34⟩
      obtain ⟨nm, hnm, rfl⟩ := item_str hi
      refine ⟨_, _, rfl, rfl, ⟨by decide, by decide, by decide⟩, by show 6 ≤ sizeLine; decide, fun lq hlq => ?_⟩
      have s5 : Same H4 (upd H4 lq (.lst (([0, 1, 2, 3, 7, 10 ^ 9] : List Int).map V.int))) := .new hlq
      have hq5 : upd H4 lq (.lst (([0, 1, 2, 3, 7, 10 ^ 9] : List Int).map V.int)) lq = some (.lst (([0, 1, 2, 3, 7, 10 ^ 9] : List Int).map V.int)) := upd_same
      have nqp : lq ≠ p := fun e => a4.pot.ne (by rw [← e]; exact hlq)
      have pot5 := a4.pot.same s5
      refine ⟨_, rfl, _, rfl, p, 2, rfl, pot5, by decide, by decide, fun n2 H6 h20 h21 d6 => ⟨_, _, rfl, rfl, _, rfl, ?_⟩⟩
      have d46 : Dr p H4 H6 := (Dr.refl a4.pot).same s5 |>.trans d6
      have hq6 := d6.get nqp hq5
      obtain ⟨k, hk⟩ : ∃ k : Nat, 2 + n1 + n2 = (k : Int) := ⟨(2 + n1 + n2).toNat, by omega⟩
      rw [hk]
      refine ⟨lq, _, rfl, SqL.of hq6, fun lf hlf => ?_⟩
      rw [cut_to, ← List.map_take]
      have hlf6 : upd H6 lf (.lst ((([0, 1, 2, 3, 7, 10 ^ 9] : List Int).take k).map V.int)) lf = some (.lst ((([0, 1, 2, 3, 7, 10 ^ 9] : List Int).take k).map V.int)) := upd_same
      have hz6 : (([0, 1, 2, 3, 7, 10 ^ 9] : List Int).take k).length ≤ 6 := by rw [List.length_take]; exact Nat.min_le_right _ _
      generalize ([0, 1, 2, 3, 7, 10 ^ 9] : List Int).take k = zs0 at *
      have d7 := d46.same (.new hlf : Same H6 (upd H6 lf (.lst (zs0.map V.int))))
      have nfp' : lf ≠ p := d46.ne hlf
      have hlf4 : H4 lf = none := d46.free hlf
      generalize upd H6 lf (.lst (zs0.map V.int)) = H7 at *
      refine ⟨Nat.zero_le _, fun lr hlr => ?_⟩
      have d8 := d7.same (.new hlr : Same H7 (upd H7 lr (.lst [])))
      have hlr8 : upd H7 lr (.lst []) lr = some (.lst (([] : List Int).map V.int)) := upd_same
      have hlf8 := (Same.new hlr : Same H7 (upd H7 lr (.lst []))) _ _ hlf6
      have nrf : lr ≠ lf := fun e => by rw [e, hlf6] at hlr; cases hlr
      have nrp : lr ≠ p := d7.ne hlr
      have hlr4 : H4 lr = none := d7.free hlr
      generalize upd H7 lr (.lst []) = H8 at *
      refine ⟨by show 7 ≤ sizeLine; decide, fun lc hlc => ⟨_, rfl, p, 7, rfl, d8.pot.same (.new hlc), by decide, by decide, fun n3 H9 h30 h31 d9' => ?_⟩⟩
      have ncp : lc ≠ p := d8.ne hlc
      have hc9 : H9 lc = some (.lst (([2, 2, 2, 3, 3, 1, 0] : List Int).map V.int)) := d9'.get ncp (by rw [upd_same]; rfl)
      have d9 : Dr p H4 H9 := (d8.same (.new hlc)).trans d9'
      have hlf9 := d9'.get nfp' ((Same.new hlc) _ _ hlf8)
      have hlr9 := d9'.get nrp ((Same.new hlc) _ _ hlr8)
      obtain ⟨mm, hm, hm0, hm3⟩ : ∃ m : Nat, ([2, 2, 2, 3, 3, 1, 0] : List Int)[n3.toNat]? = some (m : Int) ∧ 0 ≤ m ∧ m ≤ 3 := by
        have hcs : n3.toNat = 0 ∨ n3.toNat = 1 ∨ n3.toNat = 2 ∨ n3.toNat = 3 ∨ n3.toNat = 4 ∨ n3.toNat = 5 ∨ n3.toNat = 6 := by omega
        rcases hcs with e | e | e | e | e | e | e <;> rw [e]
        · exact ⟨2, rfl, by omega, by omega⟩
        · exact ⟨2, rfl, by omega, by omega⟩
        · exact ⟨2, rfl, by omega, by omega⟩
        · exact ⟨3, rfl, by omega, by omega⟩
        · exact ⟨3, rfl, by omega, by omega⟩
        · exact ⟨1, rfl, by omega, by omega⟩
        · exact ⟨0, rfl, by omega, by omega⟩
      refine ⟨lc, _, _, .int (mm : Int), rfl, rfl, SqL.of hc9, at_map V.int (j := n3.toNat) (by omega) hm, _, rfl, by omega, by omega, for_range (lo := 0) (n := mm) (fun j σ H' => ∃ (y7 : Option V) (zs rs : List Int), σ = [some (.ref p), some (.ref d), some (.ref fd), some (.int (2 + n1)), some (.str nm), some (.ref lf), some (.ref lr), y7] ∧ Same (wo H4 [p]) H' ∧ PotAt H' p ∧ H' lf = some (.lst (zs.map V.int)) ∧ H' lr = some (.lst (rs.map V.int)) ∧ zs.length ≤ 6 ∧ rs.length ≤ j) ?_ ?_ ?_⟩
      · exact ⟨_, zs0, [], rfl, d9.s, d9.pot, hlf9, hlr9, hz6, Nat.le_refl _⟩
      · rintro j σ G hj ⟨y7, zs, rs, rfl, sG, potG, hlfG, hlrG, hz, hrs⟩
        refine ⟨_, rfl, Nat.zero_le _, fun le hle => ⟨_, _, LI.dp (SqL.of ((Same.new hle) _ _ hlfG)), nil_dp (SqL.of upd_same), _, rfl, ?_⟩⟩
        have s1 : Same G (upd G le (.lst [])) := .new hle
        have hlf1 := s1 _ _ hlfG
        have hlr1 := s1 _ _ hlrG
        have pot1' := potG.same s1
        have sG1 := sG.trans s1
        generalize upd G le (.lst []) = G1 at *
        have up1 : ∀ {X : Hp}, Dr p G1 X → Same (wo H4 [p]) X := fun dx b o e => dx.get (fun z => (wo_get e).2 (by rw [z]; simp)) (sG1 _ _ e)
        by_cases hne : zs = []
        · exact iteNo (fun q => q hne) ⟨_, zs, rs, rfl, sG1, pot1', hlf1, hlr1, hz, by omega⟩
        refine iteYes hne ?_
        have hz0 : 0 < zs.length := List.length_pos_iff.mpr hne
        refine ⟨_, rfl, .inl ⟨rfl, _, SqL.of hlr1⟩, _, rfl, .inl ⟨rfl, _, SqL.of hlf1⟩, _, rfl, _, rfl, lf, _, rfl, .inl (SqL.of hlf1), p, _, rfl, pot1', by rw [List.length_map]; omega, by rw [List.length_map]; omega, fun j2 G2 hj0 hj1 d2' => ?_⟩
        rw [List.length_map] at hj1
        obtain ⟨i2, rfl⟩ : ∃ i : Nat, j2 = (i : Int) := ⟨j2.toNat, by omega⟩
        have hil : i2 < zs.length := by omega
        have hlf2 := d2'.get nfp' hlf1
        have hlr2 := d2'.get nrp hlr1
        refine ⟨lf, _, _, i2, V.int zs[i2], rfl, rfl, hlf2, by omega, by omega, sq_natI (by rw [List.length_map]; exact hil), by rw [List.getElem?_map, List.getElem?_eq_getElem hil]; rfl, ?_⟩
        refine ⟨lr, _, _, rfl, rfl, by rw [upd_ne nrf]; exact hlr2, by rw [List.length_map]; exact Nat.lt_of_le_of_lt (show rs.length ≤ 3 by omega) (by decide), ?_⟩
        have wf4 : wo H4 [p] lf = none := by rw [wo_out (by simpa using nfp')]; exact hlf4
        have wr4 : wo H4 [p] lr = none := by rw [wo_out (by simpa using nrp)]; exact hlr4
        refine ⟨_, zs.eraseIdx i2, rs ++ [zs[i2]], rfl, ((up1 d2').mut wf4).mut wr4, ?_, ?_, ?_, ?_, ?_⟩
        · obtain ⟨x, y, q1, q2⟩ := d2'.pot
          exact ⟨x, y, by rw [upd_ne nrp.symm, upd_ne nfp'.symm]; exact q1, q2⟩
        · rw [upd_ne nrf.symm, upd_same, erase_mapI]
        · rw [upd_same, List.map_append]; rfl
        · have := List.length_eraseIdx_le zs i2; omega
        · rw [List.length_append]; simp only [List.length_cons, List.length_nil]; omega
      · rintro σ G ⟨y7, zs, rs, rfl, sG, potG, hlfG, hlrG, hz, hrs⟩
        have hfG : G fd = some (.dK (dk V.ref hb)) := sG _ _ (by rw [wo_out (by simpa using nfp)]; exact hf4)
        have nm0 : nm ∉ ks hb := by
          rw [paired_fst (P := fun b l => SqL K (wo H4 [p, fd]) b (l.map V.int)) hP4, hL4]
          intro q
          obtain ⟨k', hk', e⟩ := List.mem_take_iff_getElem.mp q
          have := idx_uniq' hsn (i := k') (j := i) (x := nm) (by rw [List.getElem?_eq_getElem (by omega), e]) hnm
          omega
        have hbl : hb.length ≤ 60 := by
          have e1 : (ks hb).length = hb.length := List.length_map ..
          rw [← e1, paired_fst (P := fun b l => SqL K (wo H4 [p, fd]) b (l.map V.int)) hP4, hL4, List.length_take]
          exact Nat.le_trans (Nat.min_le_right _ _) hsl60
        have nrd : lr ≠ fd := fun e => by rw [e, hf4] at hlr4; cases hlr4
        refine ⟨_, rfl, _, rfl, _, rfl, fd, _, rfl, DPut.k (k := Sum.inr nm) hfG (by unfold dk; rw [List.length_map]; exact Nat.lt_of_le_of_lt hbl (by decide)), ?_⟩
        rw [show putK (dk V.ref hb) (Sum.inr nm) (V.ref lr) = dk V.ref (hb ++ [(nm, lr)]) from putK_dk nm0]
        have sw : Same (wo H4 [p, fd]) (wo (upd G fd (.dK (dk V.ref (hb ++ [(nm, lr)])))) [p, fd]) := fun b o e => by
          obtain ⟨q1, q2⟩ := wo_get e
          rw [wo_out q2, upd_ne (fun z => q2 (by rw [z]; simp))]
          exact sG _ _ (by rw [wo_out (fun z => q2 (by rw [List.mem_singleton.mp z]; simp))]; exact q1)
        refine ⟨_, _, _, _, hb ++ [(nm, lr)], L ++ [(nm, rs)], rfl, ?_, upd_same, ?_, ?_, ?_⟩
        · refine a4.trans ⟨fun b o e => ?_, ?_⟩
          · obtain ⟨q1, q2⟩ := wo_get e
            rw [upd_ne (fun z => q2 (by rw [z]; simp))]
            exact sG _ _ (by rw [wo_out (fun z => q2 (by rw [List.mem_singleton.mp z]; simp))]; exact q1)
          · obtain ⟨x, y, q1, q2⟩ := potG
            exact ⟨x, y, by rw [upd_ne nfp.symm]; exact q1, q2⟩
        · refine paired_snoc (Paired.mapP hP4 fun _ _ q => ⟨q.1, sw.seq q.2⟩) ⟨rfl, SqL.of ?_⟩
          rw [wo_out (by simp [nrp, nrd]), upd_ne nrd]
          exact hlrG
        · rw [List.map_append, hL4, List.take_add_one, hnm]; rfl
        · intro l hl
          rcases List.mem_append.mp hl with q | q
          · exact h34 l q
          · rw [List.mem_singleton.mp q]; show rs.length ≤ 3; omega
    · rintro σ H' ⟨y4, y5, y6, y7, hb, L, rfl, a, hf, hP, hL, h3⟩
      rw [List.length_map, List.take_length] at hL
      have d03 : Dr p H H3 := ((Dr.refl pot).same s1).trans d13
      have hfd3 : H fd = none := hfd
      have dH : Dr p H H' := ⟨fun b o e => a.get (fun z => by rw [z] at e; have := (wo_get e).1; rw [hfd3] at this; cases this) (fun z => (wo_get e).2 (by rw [z]; simp)) (d03.s b o e), a.pot⟩
      refine ⟨_, rfl, kk fd L H' dH hfd ⟨hb, .inl (by rw [wo_out (by simpa using nfp)]; exact hf), Paired.mapP hP fun _ _ q => ⟨q.1, Same.seq (fun b o e => ?_) q.2⟩, by rw [hL]; exact hsn⟩ hL h3 ⟨_, hf⟩ nfp⟩
      obtain ⟨q1, q2⟩ := wo_get e
      rw [wo_out (fun z => q2 (by rw [List.mem_singleton.mp z]; simp))]
      exact q1
end
end Five
end
section
namespace Five
open PySem PySem.Spec PyProof.Rows L2
section
variable {P : Program} {w : World} {K : PySem.W.Frag} {mg : Str → Option Value} {base : Heap} {C : Addr} {cx : Nat → Addr}
/-- rounds, sorted -/
def srd (W : List Row) (p : Str) : List Str := srt (rdf W p)
def spTiedL (K : PySem.W.Frag) : Sp := fun vs H Q _ => ∃ (d dc : Addr) (W : List Row) (hv : List (Str × Int)) (v : Str) (h : Int), vs = [.ref d, .str v, .int h, .ref dc] ∧ RdsAt K H d W ∧ v ∈ vsf W ∧ HuAt H dc hv ∧
  ∀ (H' : Hp), Same H H' → Q (oS (tiedF (srd W) hv v h)) H'
theorem ok_law_tied (T : Txt K mg C cx) : Cal P w K mg base 1 "_law_tied" (spTiedL K) := by
  refine cal_of T.d_law_tied sc_law_tied (fun vs H Q E h => ?_) (fun f cdv A outer s H vs Q E hr h => ?_)
  · obtain ⟨d, dc, W, hv, v, h, rfl, _⟩ := h
    rfl
  · obtain ⟨d, dc, W, hv, v, hu, rfl, hd, hvm, hh, k⟩ := h
    refine ⟨_, (pss_cons (ps_for PassesOwn.never (by rfl) (pi_list (pe_callB (cr_srtSK (K := K) hr.units) (by rfl) T.n_sorted (by decide +kernel) (pa_cons (pe_dget (hu_of hr) (pv 0) (pv 1) (fun _ _ => rfl)) pa_nil))) (pg_name (i := 4) sc_law_tied.nd rfl (Or.inl rfl)) (pss_one (ps_if (PW.pt (pw_and (pt_cmp (pc_din (hu_of hr) (pv 4) (pv 3))) (pw_and1 (pt_cmpR op_eq (pe_dget (hu_of hr) (pv 3) (pv 4) (fun _ _ => rfl)) (pv 2) (nomark _))))) (pss_one (ps_ret (pv 4))) pss_nil)))
      (pss_one (ps_ret pe_non))), ?_⟩
    obtain ⟨ra, g2, g1⟩ := hd.getS hvm
    refine ⟨_, rfl, _, rfl, d, _, rfl, g1 _ (.refl _), ra, _, rfl, g2, fun sl hsl => ?_⟩
    have s1 : Same H (upd H sl (.lst ((srt (rdf W v)).map V.str))) := .new hsl
    have hsl1 : upd H sl (.lst ((srt (rdf W v)).map V.str)) sl = some (.lst ((srt (rdf W v)).map V.str)) := upd_same
    generalize upd H sl (.lst ((srt (rdf W v)).map V.str)) = H1 at *
    refine ⟨sl, rfl, ⟨_, SqL.of hsl1⟩, for_list (K := K) (a := sl) (xs := (srt (rdf W v)).map V.str) (fun i σ H' => ∃ (y4 : Option V), σ = [some (.ref d), some (.str v), some (.int hu), some (.ref dc), y4] ∧ Same H1 H' ∧ ∀ o ∈ (srt (rdf W v)).take i, ¬ (o ∈ ks hv ∧ hval hv o = hu)) ?_ ?_ ?_ ?_⟩
    · exact ⟨_, rfl, .refl _, fun o h => by simp at h⟩
    · rintro i σ H' _ ⟨_, _, a, _⟩
      exact SqL.of (a _ _ hsl1)
    · rintro i z σ G hi ⟨y4, rfl, sG, hno⟩
      obtain ⟨o, hno', rfl⟩ := item_str hi
      have hhG : HuAt G dc hv := up (s1.trans sG) hh
      have next : ¬ (o ∈ ks hv ∧ hval hv o = hu) → ∀ y ∈ (srt (rdf W v)).take (i + 1), ¬ (y ∈ ks hv ∧ hval hv y = hu) := fun h y hy => by
        rw [take_snoc hno'] at hy
        rcases List.mem_append.mp hy with q | q
        · exact hno y q
        · rw [List.mem_singleton.mp q]; exact h
      refine ⟨_, rfl, _, rfl, dc, _, rfl, hhG.get? o, _, rfl, ?_⟩
      by_cases ho : o ∈ ks hv
      rotate_left
      · rw [if_neg ho]
        exact iteF ⟨_, rfl, sG, next fun z => ho z.1⟩
      rw [if_pos ho]
      refine iteT ⟨_, rfl, _, rfl, dc, _, rfl, hhG.get ho, _, rfl, rfl, _, rfl, ?_⟩
      by_cases hq : hval hv o = hu
      · refine iteYes (by rw [hq]) ⟨_, rfl, ?_⟩
        have e : tiedF (srd W) hv v hu = some o := find_at (i := i) (fun y hy => decide_eq_false (hno y hy)) hno' (decide_eq_true ⟨ho, hq⟩)
        have := k _ (s1.trans sG)
        rw [e] at this
        exact this
      · exact iteNo (fun z => hq (V.int.inj z)) ⟨_, rfl, sG, next fun z => hq z.2⟩
    · rintro σ G ⟨y4, rfl, sG, hno⟩
      rw [List.length_map, List.take_length] at hno
      have e : tiedF (srd W) hv v hu = none := find_no fun y hy => decide_eq_false (hno y hy)
      have := k _ (s1.trans sG)
      rw [e] at this
      exact this
def spChoiceL (K : PySem.W.Frag) : Nat → Sp
  | 0 => fun _ _ _ _ => False
  | n + 1 => fun vs H Q _ => ∃ (d la ll dc : Addr) (W : List Row) (L : List (Str × List Int)) (hv : List (Str × Int)) (left : List Str), vs = [.ref d, .ref la, .ref ll, .ref dc] ∧ RdsAt K H d W ∧ LisAt K H la L ∧ KeysW W L ∧ (∀ p ∈ vsf W, (lsF L p).length ≤ 60) ∧ HuAt H dc hv ∧
    LS K H ll left ∧ left.length ≤ n ∧ hv.length + n ≤ 60 ∧ left.Nodup ∧ (∀ p ∈ left, p ∈ vsf W ∧ p ∉ ks hv) ∧
    ∀ (t : Addr) (u : V) (H' : Hp), Same H H' → H' t = some (.tup [.str (kindS (lawF (srd W) (lsF L) n hv left)), u]) → Q (.ref t) H'
theorem okR_law_choice (T : Txt K mg C cx) (n : Nat) : Cal P w K mg base (n + 3) "_law_choice" (spChoiceL K n) := by
  induction n with
  | zero => exact cal_of T.d_law_choice sc_law_choice (fun vs H Q E h => h.elim) (fun f cdv A outer s H vs Q E hr h => h.elim)
  | succ n ih =>
    have ok_law_choice := fun _ : Txt K mg C cx => ih
    refine cal_of T.d_law_choice sc_law_choice (fun vs H Q E h => ?_) (fun f cdv A outer s H vs Q E hr h => ?_)
    · obtain ⟨d, la, ll, dc, W, L, hv, left, rfl, _⟩ := h
      rfl
    · obtain ⟨d, la, ll, dc, W, L, hv, left, rfl, hd, hL, hLk, hl60, hh, hll, hlen, hln, hndp, hsub, k⟩ := h
      refine ⟨_, (pss_cons (ps_if (pt_cmpR (op_eqK (K := K) (List Str) hr.units) (pv 2) (pe_lst pa_nil) (nomark _)) (pss_one (ps_ret (pe_tup (pa_cons pe_str (pa_cons (pe_callTy call_dictD (by rfl) T.n_dict (by decide +kernel) (pa_cons (pv 3) pa_nil)) pa_nil))))) pss_nil)
      (pss_cons (ps_set (i := 4) sc_law_choice.nd rfl (Or.inl rfl) (pe_ix (ix_listK (K := K)) (pv 2) pe_int (fun _ _ => rfl)))
      (pss_cons (ps_set (i := 5) sc_law_choice.nd rfl (Or.inl rfl) (pe_lst pa_nil))
      (pss_cons (ps_for PassesOwn.never (by rfl) (pi_list (pe_dget (hu_of hr) (pv 1) (pv 4) (fun _ _ => rfl))) (pg_name (i := 6) sc_law_choice.nd rfl (Or.inl rfl)) (pss_cons (ps_set (i := 7) sc_law_choice.nd rfl (Or.inl rfl) (pe_c (ok_law_tied T) hr (by omega) (by rfl) (pa_cons (pv 0) (pa_cons (pv 4) (pa_cons (pv 6) (pa_cons (pv 3) pa_nil))))))
      (pss_one (ps_if (pt_cmpR op_notN (pv 7) pe_non (nomark _)) (pss_one (ps_expr (pe_bm PySem.F.plainAttrs_list PySem.F.slot_list_append PySem.F.type_list_append mt_append (pv 5) (pa_cons (pe_tup (pa_cons (pv 6) (pa_cons (pe_tup (pa_cons pe_str (pa_cons (pv 7) pa_nil))) pa_nil))) pa_nil)))) (pss_cons (ps_set (i := 8) sc_law_choice.nd rfl (Or.inl rfl) (pe_callTy call_dictD (by rfl) T.n_dict (by decide +kernel) (pa_cons (pv 3) pa_nil)))
      (pss_cons (ps_dput (hu_of hr) (pv 8) (pv 4) (pv 6) rfl)
      (pss_cons (ps_asg (pe_c (ok_law_choice T) hr (by omega) (by rfl) (pa_cons (pv 0) (pa_cons (pv 1) (pa_cons (pe_slice (sl_listK (K := K)) (pv 2) (po_some pe_int) po_none) (pa_cons (pv 8) pa_nil))))) (pg_tupK (K := K) 2 (by rfl) (pgs_cons (pg_name (i := 9) sc_law_choice.nd rfl (Or.inl rfl)) (pgs_cons (pg_name (i := 10) sc_law_choice.nd rfl (Or.inl rfl)) pgs_nil))))
      (pss_cons (ps_if (pt_cmpR op_eq (pv 9) pe_str (nomark _)) (pss_one (ps_ret (pe_tup (pa_cons (pv 9) (pa_cons (pv 10) pa_nil))))) pss_nil)
      (pss_one (ps_expr (pe_bm PySem.F.plainAttrs_list PySem.F.slot_list_append PySem.F.type_list_append mt_append (pv 5) (pa_cons (pe_tup (pa_cons (pv 6) (pa_cons (pv 10) pa_nil))) pa_nil))))))))))))
      (pss_one (ps_ret (pe_tup (pa_cons pe_str (pa_cons (pe_tup (pa_cons (pv 4) (pa_cons (pv 5) pa_nil))) pa_nil))))))))), ?_⟩
      refine ⟨_, rfl, Nat.zero_le _, fun e0 he0 => ⟨_, _, LS.dp (up (R := LS K) (.new he0) hll), nil_dp (SqL.of upd_same), _, rfl, ?_⟩⟩
      have s1 : Same H (upd H e0 (.lst [])) := .new he0
      generalize upd H e0 (.lst []) = H1 at *
      cases left with
      | nil =>
        refine iteYes rfl ⟨_, rfl, dc, _, rfl, (up s1 hh).1, fun nd hnd => ⟨by show 2 ≤ sizeLine; decide, fun t ht => k t (.ref nd) _ ((s1.trans (.new hnd)).trans (.new ht)) ?_⟩⟩
        have e : lawF (srd W) (lsF L) n hv [] = .hues hv := by cases n <;> rfl
        rw [e]
        exact upd_same
      | cons p rest =>
      refine iteNo (by simp) ?_
      rw [List.length_cons] at hlen
      obtain ⟨m, rfl⟩ : ∃ m, n = m + 1 := ⟨n - 1, by omega⟩
      obtain ⟨hpR, hpk⟩ := hsub p (by simp)
      refine ⟨_, rfl, ll, _, _, _, rfl, rfl, up (R := LS K) s1 hll, at_map V.str (j := 0) rfl rfl, ?_⟩
      have esr : lawF (srd W) (lsF L) (m + 1) hv (p :: rest) = waysF (srd W) (fun x => lawF (srd W) (lsF L) m x rest) hv p (lsF L p) [] := rfl
      rw [esr] at k
      refine ⟨Nat.zero_le _, fun wl hwl => ?_⟩
      have s4 : Same H1 (upd H1 wl (.lst [])) := .new hwl
      have hwl4 : upd H1 wl (.lst []) wl = some (.lst []) := upd_same
      have hwl0 : H wl = none := s1.free hwl
      have hW4 : Same H (upd H1 wl (.lst [])) := s1.trans s4
      generalize upd H1 wl (.lst []) = H4 at *
      obtain ⟨b, hbl, hb⟩ := hL.getS ((hLk p).mpr hpR)
      have hlp := hl60 p hpR
      have back : ∀ {G : Hp}, Same (wo H4 [wl]) G → Same H G := fun {G} a b o e => a _ _ (by
        rw [wo_out (by simpa using ne_of_none e hwl0)]
        exact hW4 _ _ e)
      refine ⟨_, rfl, _, rfl, la, _, rfl, hb _ hW4, b, rfl, ⟨_, hW4.seq hbl⟩, for_list (K := K) (a := b) (xs := (lsF L p).map V.int) (fun i σ G => ∃ (y6 y7 y8 y9 y10 : Option V) (xs : List V) (ws : List PyData), σ = [some (.ref d), some (.ref la), some (.ref ll), some (.ref dc), some (.str p), some (.ref wl), y6, y7, y8, y9, y10] ∧ Same (wo H4 [wl]) G ∧ G wl = some (.lst xs) ∧ xs.length ≤ i ∧
          waysF (srd W) (fun x => lawF (srd W) (lsF L) m x rest) hv p (lsF L p) [] = waysF (srd W) (fun x => lawF (srd W) (lsF L) m x rest) hv p ((lsF L p).drop i) ws) ?_ ?_ ?_ ?_⟩
      · exact ⟨_, _, _, _, _, [], [], rfl, wo_same, hwl4, Nat.zero_le _, by rw [List.drop_zero]⟩
      · rintro i σ G _ ⟨_, _, _, _, _, _, _, _, a, _⟩
        exact (back a).seq hbl
      · rintro i z σ G hi ⟨y6, y7, y8, y9, y10, xs, ws, rfl, sG, hwG, hwl, hway⟩
        obtain ⟨hu, hhu, rfl⟩ := item_int hi
        have hdr : (lsF L p).drop i = hu :: (lsF L p).drop (i + 1) := by
          rw [List.drop_eq_getElem_cons (List.getElem?_eq_some_iff.mp hhu).1, (List.getElem?_eq_some_iff.mp hhu).2]
        have hi60 : i < 60 := Nat.lt_of_lt_of_le (List.getElem?_eq_some_iff.mp hhu).1 hlp
        have sHG := back sG
        rw [hdr, waysF_cons] at hway
        refine ⟨_, rfl, _, rfl, _, rfl, _, rfl, d, dc, W, hv, p, hu, rfl, up (R := RdsAt K) sHG hd, hpR, up sHG hh, fun G1 s1' => ⟨_, rfl, rfl, _, rfl, ?_⟩⟩
        have hw1 := s1' _ _ hwG
        have sHG1 := sHG.trans s1'
        have sW1 : Same (wo H4 [wl]) G1 := sG.trans s1'
        have hxl : xs.length < sizeLine := Nat.lt_of_le_of_lt (show xs.length ≤ 60 by omega) (by decide)
        cases ht : tiedF (srd W) hv p hu with
        | some o =>
          rw [ht] at hway
          refine iteNY (show ¬ V.str o = V.non from fun z => nomatch z) ⟨_, rfl, .inl ⟨rfl, _, SqL.of hw1⟩, _, rfl, _, rfl, by show 2 ≤ sizeLine; decide, fun t2 ht2 => ⟨by show 2 ≤ sizeLine; decide, fun t1 ht1 => ?_⟩⟩
          have sA : Same G1 (upd G1 t2 (.tup [.str "tied", .str o])) := .new ht2
          have sB : Same (upd G1 t2 (.tup [.str "tied", .str o])) (upd (upd G1 t2 (.tup [.str "tied", .str o])) t1 (.tup [.int hu, .ref t2])) := .new ht1
          refine ⟨wl, _, _, rfl, rfl, (sA.trans sB) _ _ hw1, hxl, ?_⟩
          refine ⟨_, _, _, _, _, _, ws ++ [wyD hu (tdD o)], rfl, ?_, upd_same, ?_, hway⟩
          · exact (sW1.trans (sA.trans sB)).mut (wo_in (by simp))
          · rw [List.length_append]
            show xs.length + 1 ≤ i + 1
            omega
        | none =>
          rw [ht] at hway
          refine iteNS rfl ?_
          have hhG : HuAt G1 dc hv := up sHG1 hh
          refine ⟨_, rfl, dc, _, rfl, hhG.1, fun nd hnd => ?_⟩
          have hlen' : (dk V.int hv).length < sizeLine := by
            unfold dk
            rw [List.length_map]
            exact Nat.lt_of_le_of_lt (show hv.length ≤ 60 by omega) (by decide)
          refine ⟨_, rfl, _, rfl, _, rfl, nd, _, rfl, .inl ⟨_, Sum.inr p, upd_same, rfl, hlen', rfl⟩, ?_⟩
          rw [upd_upd, show putK (dk V.int hv) (Sum.inr p) (V.int hu) = dk V.int (hv ++ [(p, hu)]) from putK_dk hpk]
          have s2 : Same G1 (upd G1 nd (.dK (dk V.int (hv ++ [(p, hu)])))) := .new hnd
          have hn2 : HuAt (upd G1 nd (.dK (dk V.int (hv ++ [(p, hu)])))) nd (hv ++ [(p, hu)]) := HuAt.of upd_same (by
            rw [ks_snoc]
            exact List.nodup_append.mpr ⟨hh.2, by simp, fun a ha b hb e => hpk (by rw [← List.mem_singleton.mp hb, ← e]; exact ha)⟩)
          generalize upd G1 nd (.dK (dk V.int (hv ++ [(p, hu)]))) = G2 at *
          have sHG2 := sHG1.trans s2
          refine ⟨_, rfl, _, rfl, _, rfl, _, rfl, ll, _, rfl, up (R := LS K) sHG2 hll, fun lr hlr => ?_⟩
          rw [show cutV ((p :: rest).map V.str) (some 1) none = rest.map V.str from cut_from ((p :: rest).map V.str) 1]
          have sR : Same G2 (upd G2 lr (.lst (rest.map V.str))) := .new hlr
          have hlr2 : upd G2 lr (.lst (rest.map V.str)) lr = some (.lst (rest.map V.str)) := upd_same
          generalize upd G2 lr (.lst (rest.map V.str)) = G2' at *
          have sHG2' := sHG2.trans sR
          refine ⟨_, rfl, d, la, lr, nd, W, L, hv ++ [(p, hu)], rest, rfl, up (R := RdsAt K) sHG2' hd, hL.s sHG2', hLk, hl60, up sR hn2, SqL.of hlr2, by omega, by rw [List.length_append]; show hv.length + 1 + m ≤ 60; omega, (List.nodup_cons.mp hndp).2, fun q hq => ⟨(hsub q (List.mem_cons_of_mem _ hq)).1, fun z => ?_⟩, fun t u G3 s3 ht3 => ?_⟩
          · rw [ks_snoc] at z
            rcases List.mem_append.mp z with z | z
            · exact (hsub q (List.mem_cons_of_mem _ hq)).2 z
            · exact (List.nodup_cons.mp hndp).1 (by rw [← List.mem_singleton.mp z]; exact hq)
          have sHG3 := sHG2'.trans s3
          have hw3 := (sR.trans s3) _ _ (s2 _ _ hw1)
          refine ⟨t, _, rfl, SqT.of ht3, rfl, _, _, rfl, _, _, rfl, rfl, ?_⟩
          dsimp only at hway
          generalize lawF (srd W) (lsF L) m (hv ++ [(p, hu)]) rest = sr at hway ht3
          cases sr with
          | hues xx =>
            refine ⟨_, rfl, rfl, _, rfl, iteYes rfl ⟨_, rfl, _, rfl, by show 2 ≤ sizeLine; decide, fun t' ht' => k t' u _ (sHG3.trans (.new ht')) ?_⟩⟩
            rw [hway]
            exact upd_same
          | cho e =>
            refine ⟨_, rfl, rfl, _, rfl, iteNo (fun z => absurd (show ("choice" : Str) = "hues" from V.str.inj z) (by decide +kernel)) ⟨_, rfl, .inl ⟨rfl, _, SqL.of hw3⟩, _, rfl, _, rfl, by show 2 ≤ sizeLine; decide, fun t1 ht1 => ?_⟩⟩
            have sB : Same G3 (upd G3 t1 (.tup [.int hu, u])) := .new ht1
            refine ⟨wl, _, _, rfl, rfl, sB _ _ hw3, hxl, ?_⟩
            refine ⟨_, _, _, _, _, _, ws ++ [wyD hu e], rfl, ?_, upd_same, ?_, hway⟩
            · exact ((((sW1.trans s2).trans sR).trans s3).trans sB).mut (wo_in (by simp))
            · rw [List.length_append]
              show xs.length + 1 ≤ i + 1
              omega
      · rintro σ G ⟨y6, y7, y8, y9, y10, xs, ws, rfl, sG, hwG, hwl, hway⟩
        rw [List.length_map, List.drop_length] at hway
        have sHG := back sG
        refine ⟨_, rfl, _, rfl, by show 2 ≤ sizeLine; decide, fun t2 ht2 => ⟨by show 2 ≤ sizeLine; decide, fun t1 ht1 => ?_⟩⟩
        refine k t1 (.ref t2) _ ((sHG.trans (.new ht2)).trans (.new ht1)) ?_
        rw [hway]
        exact upd_same
theorem ok_law_choice (T : Txt K mg C cx) : Cal P w K mg base 12 "_law_choice" (spChoiceL K 9) := okR_law_choice T 9
end
end Five
end
section
namespace Five
open PySem PySem.Spec PyProof.Rows L2
mutual
/-- beside some lists that are not its own -/
theorem ChW.wo {G : Hp} {M : List Addr} (hM : ∀ a ∈ M, ∃ xs, G a = some (.lst xs)) : ∀ {v : V} {e : PyData} {As : List Addr}, ChW G v e As → (∀ a ∈ M, a ∉ As) → ChW (wo G M) v e As
  | _, _, _, .td h, _ => .td (by
      rw [wo_out fun z => ?_]
      · exact h
      · obtain ⟨xs, q⟩ := hM _ z
        rw [h] at q; cases q)
  | _, _, _, .ch h1 h2 h3, hn => .ch (by
      rw [wo_out fun z => ?_]
      · exact h1
      · obtain ⟨xs, q⟩ := hM _ z
        rw [h1] at q; cases q) (by
      rw [wo_out fun z => hn _ z (by simp)]
      exact h2) (ChWs.wo hM h3 fun a ha z => hn a ha (List.mem_cons_of_mem _ z))
theorem ChWs.wo {G : Hp} {M : List Addr} (hM : ∀ a ∈ M, ∃ xs, G a = some (.lst xs)) : ∀ {xs : List V} {ws : List PyData} {Bs : List (List Addr)}, ChWs G xs ws Bs → (∀ a ∈ M, a ∉ Bs.flatten) → ChWs (wo G M) xs ws Bs
  | _, _, _, .nil, _ => .nil
  | _, _, _, .cons h1 h2 h3, hn => .cons (by
      rw [wo_out fun z => ?_]
      · exact h1
      · obtain ⟨xs, q⟩ := hM _ z
        rw [h1] at q; cases q) (ChW.wo hM h2 fun a ha z => hn a ha (List.mem_append_left _ z)) (ChWs.wo hM h3 fun a ha z => hn a ha (List.mem_append_right _ z))
end
theorem ChWs.at {G : Hp} : ∀ {xs : List V} {ws : List PyData} {Bs : List (List Addr)}, ChWs G xs ws Bs → ∀ {i : Nat} {x : V}, xs[i]? = some x → ∃ y h u f As, x = .ref y ∧ ws[i]? = some (wyD h f) ∧ Bs[i]? = some As ∧ G y = some (.tup [.int h, u]) ∧ ChW G u f As
  | _, _, _, .cons h1 h2 h3, 0, x, e => by cases e; exact ⟨_, _, _, _, _, rfl, rfl, rfl, h1, h2⟩
  | _, _, _, .cons h1 h2 h3, i + 1, x, e => h3.at (i := i) e
theorem ChWs.lenB {G : Hp} : ∀ {xs : List V} {ws : List PyData} {Bs : List (List Addr)}, ChWs G xs ws Bs → xs.length = Bs.length
  | _, _, _, .nil => rfl
  | _, _, _, .cons _ _ h => by rw [List.length_cons, List.length_cons, h.lenB]
theorem ChWs.pair {G : Hp} : ∀ {xs : List V} {ws : List PyData} {Bs : List (List Addr)}, ChWs G xs ws Bs → Paired (fun x d => ∃ y h u f As, x = V.ref y ∧ d = wyD h f ∧ G y = some (.tup [.int h, u]) ∧ ChW G u f As) xs ws
  | _, _, _, .nil => .nil
  | _, _, _, .cons h1 h2 h3 => .cons ⟨_, _, _, _, _, rfl, rfl, h1, h2⟩ h3.pair
section
variable {P : Program} {w : World} {K : PySem.W.Frag} {mg : Str → Option Value} {base : Heap} {C : Addr} {cx : Nat → Addr}
def spEmptied (K : PySem.W.Frag) : Nat → Sp
  | 0 => fun _ _ _ _ => False
  | n + 1 => fun vs H Q _ => ∃ (v : V) (e : PyData) (As : List Addr), vs = [v] ∧ ChW H v e As ∧ As.Nodup ∧ Wy n e ∧ ∀ H', Same (wo H As) H' → Q .non H'
theorem okR_emptied (T : Txt K mg C cx) (n : Nat) : Cal P w K mg base (n + 1) "_law_emptied" (spEmptied K n) := by
  induction n with
  | zero => exact cal_of T.d_law_emptied sc_law_emptied (fun vs H Q E h => h.elim) (fun f cdv A outer s H vs Q E hr h => h.elim)
  | succ n ih =>
    have ok_law_emptied := fun _ : Txt K mg C cx => ih
    refine cal_of T.d_law_emptied sc_law_emptied (fun vs H Q E h => ?_) (fun f cdv A outer s H vs Q E hr h => ?_)
    · obtain ⟨v, e, As, rfl, _⟩ := h
      rfl
    · obtain ⟨v, e, As, rfl, hd, hn, hw, k⟩ := h
      refine ⟨_, (pss_one (ps_if (pt_val (pe_c (ok_law_is_choice T) hr (by omega) (by rfl) (pa_cons (pv 0) pa_nil))) (pss_cons (ps_for PassesOwn.never (by rfl) (pi_list (pe_ix (ix_tupK (K := K)) (pv 0) pe_int (fun _ _ => rfl))) (pg_tupK (K := K) 2 (by rfl) (pgs_cons (pg_name (i := 1) sc_law_emptied.nd rfl (Or.inl rfl)) (pgs_cons (pg_name (i := 2) sc_law_emptied.nd rfl (Or.inl rfl)) pgs_nil))) (pss_one (ps_expr (pe_c (ok_law_emptied T) hr (by omega) (by rfl) (pa_cons (pv 2) pa_nil)))))
      (pss_one (ps_expr (pe_bm0 PySem.F.plainAttrs_list PySem.F.slot_list_clear PySem.F.type_list_clear mt_clear (pe_ix (ix_tupK (K := K)) (pv 0) pe_int (fun _ _ => rfl)))))) pss_nil)), ?_⟩
      refine ⟨_, rfl, v, e, n, rfl, hd.dp, hw, ?_⟩
      rcases hw.alt with ⟨o, ho, rfl⟩ | ⟨m, hm, p, ws, hp, rfl, hl3, hws⟩
      · exact ⟨_, rfl, iteF (k _ wo_same)⟩
      · subst hm
        obtain ⟨t, l, xs, Bs, rfl, rfl, ht, hl, hc⟩ : ∃ t l xs Bs, v = .ref t ∧ As = l :: Bs.flatten ∧ H t = some (.tup [.str p, .ref l]) ∧ H l = some (.lst xs) ∧ ChWs H xs ws Bs := by
          generalize he : chD p ws = e0 at hd
          cases hd with
          | td _ => cases he
          | ch h1 h2 h3 => cases he; exact ⟨_, _, _, _, rfl, rfl, h1, h2, h3⟩
        obtain ⟨n1, n2⟩ := List.nodup_cons.mp hn
        have hls := hc.ls
        refine ⟨_, rfl, iteT ⟨_, rfl, t, _, 1, _, rfl, rfl, SqT.of ht, rfl, l, rfl, ⟨_, SqL.of hl⟩, for_list (K := K) (a := l) (xs := xs) (fun i σ G => ∃ (y1 y2 : Option V), σ = [some (.ref t), y1, y2] ∧ Same (wo H (Bs.take i).flatten) G) ?_ ?_ ?_ ?_⟩⟩
        · exact ⟨_, _, rfl, wo_same⟩
        · rintro i σ G _ ⟨_, _, _, s⟩
          exact SqL.of (s _ _ (by rw [wo_out fun z => n1 ((flat_take Bs i).subset z)]; exact hl))
        · rintro i z σ G hi ⟨y1, y2, rfl, sG⟩
          obtain ⟨y, h, u, ff, As', rfl, e1, e2, e3, e4⟩ := hc.at hi
          have hw1 := hws _ (List.mem_of_getElem? e1)
          obtain ⟨h', f', e5, wf⟩ := hw1
          have e5 : h = h' ∧ ff = f' := by
            have := e5
            unfold wyD at this
            injection this with q
            injection q with q1 q2
            injection q1 with q1
            injection q2 with q2
            exact ⟨q1, q2⟩
          obtain ⟨rfl, rfl⟩ := e5
          have hsp : Bs.flatten.Nodup := n2
          have hdis : ∀ a ∈ (Bs.take i).flatten, a ∉ As' := fun a ha hb => by
            have q : (Bs.take (i + 1)).flatten.Nodup := (flat_take Bs (i + 1)).nodup hsp
            rw [take_snoc e2, List.flatten_append] at q
            exact (List.nodup_append.mp q).2.2 a ha a (by simpa using hb) rfl
          have hM : ∀ a ∈ (Bs.take i).flatten, ∃ xs, H a = some (.lst xs) := fun a ha => hls a ((flat_take Bs i).subset ha)
          have hyn : y ∉ (Bs.take i).flatten := fun z => by
            obtain ⟨q, q2⟩ := hM y z
            rw [e3] at q2; cases q2
          have hy : G y = some (.tup [.int h, u]) := sG _ _ (by rw [wo_out hyn]; exact e3)
          have hu : ChW G u ff As' := (e4.wo hM hdis).s sG
          have hAn : As'.Nodup := by
            have q : (Bs.take (i + 1)).flatten.Nodup := (flat_take Bs (i + 1)).nodup hsp
            rw [take_snoc e2, List.flatten_append] at q
            have := (List.nodup_append.mp q).2.1
            simpa using this
          refine ⟨y, _, rfl, SqT.of hy, rfl, _, _, rfl, _, _, rfl, rfl, ?_⟩
          refine ⟨_, rfl, u, ff, As', rfl, hu, hAn, wf, fun G2 s2 => ⟨_, _, rfl, fun b o q => ?_⟩⟩
          rw [take_snoc e2, List.flatten_append] at q
          obtain ⟨q1, q2⟩ := wo_get q
          simp only [List.flatten_cons, List.flatten_nil, List.append_nil, List.mem_append, not_or] at q2
          exact s2 _ _ (by rw [wo_out q2.2]; exact sG _ _ (by rw [wo_out q2.1]; exact q1))
        · rintro σ G ⟨y1, y2, rfl, sG⟩
          rw [hc.lenB, List.take_length] at sG
          have hlG := sG _ _ (by rw [wo_out n1]; exact hl)
          have htn : t ∉ Bs.flatten := fun z => by
            obtain ⟨q, q2⟩ := hls t z
            rw [ht] at q2; cases q2
          have htG := sG _ _ (by rw [wo_out htn]; exact ht)
          refine ⟨_, rfl, t, _, 1, _, rfl, rfl, SqT.of htG, rfl, ?_⟩
          refine ⟨.inl ⟨rfl, _, SqL.of hlG⟩, l, _, rfl, rfl, hlG, k _ fun b o q => ?_⟩
          obtain ⟨q1, q2⟩ := wo_get q
          rw [upd_ne fun z => q2 (by rw [z]; simp)]
          exact sG _ _ (by rw [wo_out fun z => q2 (List.mem_cons_of_mem _ z)]; exact q1)
theorem ok_law_emptied (T : Txt K mg C cx) : Cal P w K mg base 15 "_law_emptied" (spEmptied K 14) := okR_emptied T 14
def spCop (K : PySem.W.Frag) : Nat → Sp
  | 0 => fun _ _ _ _ => False
  | n + 1 => fun vs H Q _ => ∃ (G0 : Hp) (M : List Addr) (v : V) (e : PyData) (As : List Addr), vs = [v] ∧ Same G0 H ∧ Al M H ∧ (∀ a ∈ M, ∀ ys, G0 a ≠ some (.tup ys)) ∧ ChW G0 v e As ∧ Wy n e ∧ ∀ (v' : V) (H' : Hp), Same H H' → Dp K (wo H' M) v' e → Q v' H'
theorem okR_copied (T : Txt K mg C cx) (n : Nat) : Cal P w K mg base (n + 1) "_law_copied" (spCop K n) := by
  induction n with
  | zero => exact cal_of T.d_law_copied sc_law_copied (fun vs H Q E h => h.elim) (fun f cdv A outer s H vs Q E hr h => h.elim)
  | succ n ih =>
    have ok_law_copied := fun _ : Txt K mg C cx => ih
    refine cal_of T.d_law_copied sc_law_copied (fun vs H Q E h => ?_) (fun f cdv A outer s H vs Q E hr h => ?_)
    · obtain ⟨G0, M, v, e, As, rfl, _⟩ := h
      rfl
    · obtain ⟨G0, M, v, e, As, rfl, s0, al, hM, hd, hw, k⟩ := h
      refine ⟨_, (pss_cons (ps_if (pt_not (pt_val (pe_c (ok_law_is_choice T) hr (by omega) (by rfl) (pa_cons (pv 0) pa_nil)))) (pss_one (ps_ret (pv 0))) pss_nil)
      (pss_one (ps_ret (pe_tup (pa_cons (pe_ix (ix_tupK (K := K)) (pv 0) pe_int (fun _ _ => rfl)) (pa_cons (pe_lc (own := [("_law_hue", 1), ("_law_why", 2)]) (by rfl) sc_law_copied.nd (pi_list (pe_ix (ix_tupK (K := K)) (pv 0) pe_int (fun _ _ => rfl))) (blkOk_by (own := [("_law_hue", 1), ("_law_why", 2)]) (N := N_law_copied) (sc := defScope s_law_copied) (by decide +kernel)) (fun _ _ _ _ _ => (pg_tupK (K := K) 2 (by rfl) (pgs_cons (pg_name (i := 1) sc_law_copied.nd rfl (Or.inl rfl)) (pgs_cons (pg_name (i := 2) sc_law_copied.nd rfl (Or.inl rfl)) pgs_nil)))) (fun _ _ _ _ _ => pts_nil) (fun _ _ _ _ _ => (pe_tup (pa_cons (pv 1) (pa_cons (pe_c (ok_law_copied T) hr (by omega) (by rfl) (pa_cons (pv 2) pa_nil)) pa_nil))))) pa_nil)))))), ?_⟩
      refine ⟨_, rfl, v, e, n, rfl, (hd.s s0).dp, hw, ?_⟩
      rcases hw.alt with ⟨o, ho, rfl⟩ | ⟨m, hm, p, ws, hp, rfl, hl3, hws⟩
      · refine ⟨_, rfl, iteT ⟨_, rfl, k _ _ (.refl _) ?_⟩⟩
        obtain ⟨t, rfl, ht⟩ : ∃ t, v = .ref t ∧ G0 t = some (.tup [.str "tied", .str o]) := by
          generalize he : tdD o = e0 at hd
          cases hd with
          | td h => cases he; exact ⟨_, rfl, h⟩
          | ch _ _ _ => cases he
        refine .tup (SqT.of ?_) (.cons (.str _) (.cons (.str _) .nil))
        rw [wo_out fun z => ?_]
        · exact s0 _ _ ht
        · exact hM _ z _ ht
      · subst hm
        obtain ⟨t, l, xs, Bs, rfl, rfl, ht, hl, hc⟩ : ∃ t l xs Bs, v = .ref t ∧ As = l :: Bs.flatten ∧ G0 t = some (.tup [.str p, .ref l]) ∧ G0 l = some (.lst xs) ∧ ChWs G0 xs ws Bs := by
          generalize he : chD p ws = e0 at hd
          cases hd with
          | td _ => cases he
          | ch h1 h2 h3 => cases he; exact ⟨_, _, _, _, rfl, rfl, h1, h2, h3⟩
        refine ⟨_, rfl, iteF ⟨_, rfl, t, _, 0, _, rfl, rfl, SqT.of (s0 _ _ ht), rfl, _, rfl, t, _, 1, _, rfl, rfl, SqT.of (s0 _ _ ht), rfl, l, rfl, ⟨_, SqL.of (s0 _ _ hl)⟩, fun D hD => ?_⟩⟩
        refine lcL (K := K) (M := M) hc.pair (fun G v d => Dp K G v d) (fun _ _ _ _ s h => dp_s s h) (fun d => some d) hD al (Nat.lt_of_le_of_lt hl3 (by decide)) (SqL.of (s0 _ _ hl)) (fun z d H2 Ky Kn hb hz s2 al2 ky kn => ?_) (fun ys H2 s2 hD2 hp2 => ?_)
        · obtain ⟨hh, ff, e5, wf⟩ := hws d hb
          obtain ⟨y, h', u, f', As', rfl, e6, htt, hu⟩ := hz
          subst e5
          obtain ⟨rfl, rfl⟩ : hh = h' ∧ ff = f' := by
            have := e6
            unfold wyD at this
            injection this with q
            injection q with q1 q2
            injection q1 with q1
            injection q2 with q2
            exact ⟨q1, q2⟩
          have hM2 : ∀ a ∈ D :: M, ∀ ys, G0 a ≠ some (.tup ys) := fun a ha ys q => by
            rcases List.mem_cons.mp ha with z | z
            · rw [z] at q
              rw [s0 _ _ q] at hD; cases hD
            · exact hM a z ys q
          refine ⟨y, _, rfl, SqT.of (s2 _ _ (s0 _ _ htt)), rfl, _, _, rfl, _, _, rfl, rfl, rfl, lcy ⟨_, rfl, _, rfl, G0, D :: M, u, ff, As', rfl, s0.trans s2, al2, hM2, hu, wf, fun v' H3 s3 hv' => ⟨by show 2 ≤ sizeLine; decide, fun t2 ht2 => ky _ _ _ rfl (s3.trans (.new ht2)) ?_⟩⟩⟩
          refine .tup (SqT.of ?_) (.cons (.int _) (.cons (dp_s (Same.wo (.new ht2)) hv') .nil))
          rw [wo_out ((al2.same s3).fresh ht2), upd_same]
        · rw [filterMap_some, List.map_id'] at hp2
          refine ⟨by show 2 ≤ sizeLine; decide, fun t2 ht2 => k _ _ (s2.trans (.new ht2)) ?_⟩
          have hDM : D ∉ M := al.fresh hD
          have g1 : wo (upd H2 t2 (.tup [.str p, .ref D])) M t2 = some (.tup [.str p, .ref D]) := by rw [wo_out ((al.same s2).fresh ht2), upd_same]
          have g2 : wo (upd H2 t2 (.tup [.str p, .ref D])) M D = some (.lst ys) := by rw [wo_out hDM]; exact Same.new ht2 _ _ hD2
          have g3 : Same (wo H2 (D :: M)) (wo (upd H2 t2 (.tup [.str p, .ref D])) M) := fun b o e => by
            obtain ⟨q1, q2⟩ := wo_get e
            rw [wo_out fun z => q2 (List.mem_cons_of_mem _ z)]
            exact Same.new ht2 _ _ q1
          exact .tup (SqT.of g1) (.cons (.str _) (.cons (.lst (SqL.of g2) (dpAll_s g3 (dpAll_of hp2))) .nil))
theorem ok_law_copied (T : Txt K mg C cx) : Cal P w K mg base 15 "_law_copied" (spCop K 14) := okR_copied T 14
end
end Five
end
section
namespace Five
open PySem PySem.Spec PyProof.Rows L2
theorem LisAt.sm {K : PySem.W.Frag} {G G' : Hp} {a : Addr} {L : List (Str × List Int)} (s : Sm G G') (h : LisAt K G a L) : LisAt K G' a L := by
  obtain ⟨hb, h1, h2, h3⟩ := h
  exact ⟨hb, s.r _ _ trivial h1, Paired.mapP h2 fun _ _ q => ⟨q.1, s.seq q.2⟩, h3⟩
section
variable {P : Program} {w : World} {K : PySem.W.Frag} {mg : Str → Option Value} {base : Heap} {C : Addr} {cx : Nat → Addr}
def spAreRight (K : PySem.W.Frag) : Sp := fun vs H Q _ => ∃ (d la fd : Addr) (W : List Row) (kvs : List (Key × V)) (L : List (Str × List Int)) (x : List (Str × Int)), vs = [.ref d, .ref la, .ref fd] ∧ H d = some (.dK kvs) ∧ Paired (RowKV K (wo H [d])) kvs W ∧ W.length ≤ 60 ∧ Wf (vsf W) (rdf W) ∧ LisAt K H la L ∧ KeysW W L ∧ fd ≠ d ∧ H fd = some (.dK (dk V.int x)) ∧ (ks x).Nodup ∧ (ks x).Perm (vsf W) ∧ RightH (rdf W) (lsF L) x ∧
  ∀ H', Same H H' → Q (.bl true) H'
theorem ok_law_are_right (T : Txt K mg C cx) : Cal P w K mg base 2 "_law_are_right" (spAreRight K) := by
  refine cal_of T.d_law_are_right sc_law_are_right (fun vs H Q E h => ?_) (fun f cdv A outer s H vs Q E hr h => ?_)
  · obtain ⟨d, la, fd, W, kvs, L, x, rfl, _⟩ := h
    rfl
  · obtain ⟨d, la, fd, W, kvs, L, x, rfl, hd, hP, hW60, wf, hL, hKW, nfd, hf, hxn, hxp, hxr, k⟩ := h
    refine ⟨_, (pss_cons (ps_if (PW.pt (pw_or (pt_cmpR (op_neK (K := K) (List Str) hr.units) (pe_callB (call_srtD rfl) (by rfl) T.n_sorted (by decide +kernel) (pa_cons (pv 2) pa_nil)) (pe_callB (call_srtD rfl) (by rfl) T.n_sorted (by decide +kernel) (pa_cons (pv 0) pa_nil)) (nomark _)) (pw_or1 (pt_val (pe_callB (cr_anyK (K := K) rfl) (by rfl) T.n_any (by decide +kernel) (pa_cons (pe_lock (pe_lc (own := [("_law_name", 3)]) (by rfl) sc_law_are_right.nd (pi_keys (pv 0)) (blkOk_by (own := [("_law_name", 3)]) (N := N_law_are_right) (sc := defScope s_law_are_right) (by decide +kernel)) (fun _ _ _ _ _ => (pg_name (i := 3) sc_law_are_right.nd rfl (Or.inl rfl))) (fun _ _ _ _ _ => pts_nil) (fun _ _ _ _ _ => (pe_cmpR (op_notInK (K := K)) (pe_dget (hu_of hr) (pv 2) (pv 3) (fun _ _ => rfl)) (pe_dget (hu_of hr) (pv 1) (pv 3) (fun _ _ => rfl)) (by rfl))))) pa_nil)))))) (pss_one (ps_ret pe_bl)) pss_nil)
      (pss_cons (ps_if (pt_val (pe_callB (cr_anyK (K := K) rfl) (by rfl) T.n_any (by decide +kernel) (pa_cons (pe_lock (pe_lc (own := [("_law_name", 3)]) (by rfl) sc_law_are_right.nd (pi_keys (pv 0)) (blkOk_by (own := [("_law_name", 3)]) (N := N_law_are_right) (sc := defScope s_law_are_right) (by decide +kernel)) (fun _ _ _ _ _ => (pg_name (i := 3) sc_law_are_right.nd rfl (Or.inl rfl))) (fun _ _ _ _ _ => pts_nil) (fun _ _ _ _ _ => (pe_callB (call_isiK' (K := K)) (by rfl) T.n_isinstance (by decide +kernel) (pa_cons (pe_dget (hu_of hr) (pv 2) (pv 3) (fun _ _ => rfl)) (pa_cons (pe_bltn (v := .ty "bool") (by rfl) T.n_bool (by decide +kernel) rfl) pa_nil)))))) pa_nil))) (pss_one (ps_ret pe_bl)) pss_nil)
      (pss_one (ps_ret (pe_callB (cr_allK (K := K) rfl) (by rfl) T.n_all (by decide +kernel) (pa_cons (pe_lock (pe_lc (own := [("_law_name", 3)]) (by rfl) sc_law_are_right.nd (pi_keys (pv 0)) (blkOk_by (own := [("_law_name", 3)]) (N := N_law_are_right) (sc := defScope s_law_are_right) (by decide +kernel)) (fun _ _ _ _ _ => (pg_name (i := 3) sc_law_are_right.nd rfl (Or.inr rfl))) (fun _ _ _ _ _ => pts_nil) (fun _ _ _ _ _ => (pe_callB (cr_allK (K := K) rfl) (by rfl) T.n_all (by decide +kernel) (pa_cons (pe_lc (own := [("_law_other", 4)]) (by rfl) sc_law_are_right.nd (pi_listK (K := K) (pe_dget (hu_of hr) (pv 0) (pv 3) (fun _ _ => rfl))) (blkIn (sc0 := defScope s_law_are_right) (own := [("_law_other", 4)]) (N := N_law_are_right) rfl (by decide +kernel)) (fun _ _ _ _ _ => (pg_name (i := 4) sc_law_are_right.nd rfl (Or.inl rfl))) (fun _ _ _ _ _ => pts_nil) (fun _ _ _ _ _ => (pe_cmpR op_ne (pe_dget (hu_of hr) (pv 2) (pv 4) (fun _ _ => rfl)) (pe_dget (hu_of hr) (pv 2) (pv 3) (fun _ _ => rfl)) (nomark _)))) pa_nil))))) pa_nil)))))), ?_⟩
    have hrdH : RdsAt K H d W := ⟨kvs, .inl hd, Paired.mapP hP fun _ _ q => rowKV_up wo_same.sm q⟩
    have hvl : (vsf W).length < 64 := by rw [List.length_map]; omega
    have hkl : (ks x).length < 64 := by rw [hxp.length_eq]; exact hvl
    refine ⟨_, rfl, fd, _, ks x, rfl, .inl hf, dk_keys, hkl, fun q hq => ?_⟩
    have s1 : Same H (upd H q (.lst ((srt (ks x)).map V.str))) := .new hq
    have hqv : upd H q (.lst ((srt (ks x)).map V.str)) q = some (.lst ((srt (ks x)).map V.str)) := upd_same
    generalize upd H q (.lst ((srt (ks x)).map V.str)) = H1 at *
    refine ⟨_, rfl, d, _, vsf W, rfl, .inl (s1 _ _ hd), rds_keys hP, hvl, fun q2 hq2 => ?_⟩
    have s2 : Same H1 (upd H1 q2 (.lst ((srt (vsf W)).map V.str))) := .new hq2
    have hq2v : upd H1 q2 (.lst ((srt (vsf W)).map V.str)) q2 = some (.lst ((srt (vsf W)).map V.str)) := upd_same
    have hqv2 := s2 _ _ hqv
    have s12 := s1.trans s2
    generalize upd H1 q2 (.lst ((srt (vsf W)).map V.str)) = H2 at *
    refine ⟨_, _, LS.dp (SqL.of hqv2), LS.dp (SqL.of hq2v), _, rfl, iteNo (fun q => q (srt_congr hxp)) ?_⟩
    have hf2 := s12 _ _ hf
    have hd2 := s12 _ _ hd
    have kin : ∀ v ∈ vsf W, v ∈ ks x := fun v hv => hxp.mem_iff.mpr hv
    have hh2 : HuAt H2 fd x := HuAt.of hf2 hxn
    have hL2 : LisAt K H2 la L := hL.s s12
    refine ⟨d, .dK kvs, hd2, trivial, fun od => ?_⟩
    have hLL : LisAt K (upd H2 d (.frz od (.dK kvs))) la L := hL2.sm (lock_sm hd2 trivial id)
    have hhL : HuAt (upd H2 d (.frz od (.dK kvs))) fd x := Mn.up (lock_sm hd2 trivial id) hh2
    have hfz : upd H2 d (.frz od (.dK kvs)) d = some (.frz od (.dK kvs)) := upd_same
    refine ⟨_, rfl, d, od, rfl, .inl ⟨_, hfz, fun D hD => ?_⟩⟩
    have nDd : D ≠ d := fun e => by rw [e, upd_same] at hD; cases hD
    refine lcK (M := []) (l := vsf W) (rds_keys hP) (fun G v (r : Bool) => v = .bl r) (fun _ _ _ _ _ e => e) (fun v => some false) hD al_nil (Nat.lt_trans hvl (by decide)) hfz (fun b H3 Ky Kn hb s3 al3 ky kn => ?_) (fun ys H3 s3 hD3 hp3 => ?_)
    · obtain ⟨lb, g1, g2⟩ := (hLL.s s3).get ((hKW b).mpr hb)
      refine ⟨rfl, lcy ⟨_, rfl, _, rfl, fd, _, rfl, (up s3 hhL).get (kin b hb), _, rfl, _, rfl, la, _, rfl, g1, lb, _, rfl, .inl g2, rfl, flat_ints _, ?_⟩⟩
      rw [inV_int, decide_eq_true (hxr b (kin b hb)).1]
      exact ky _ false _ rfl (.refl _) rfl
    rw [filterMap_some] at hp3
    rw [paired_vals hp3] at hD3
    obtain ⟨u1, u2, _⟩ := unlock_all (N := []) hd2 s3 (by simp)
    refine ⟨u1, D, _, rfl, SqL.of (by rw [upd_ne nDd]; exact hD3), ?_⟩
    rw [show (((vsf W).map fun _ => false).any id) = false by simp]
    refine ⟨_, rfl, iteF ?_⟩
    generalize upd H3 d (.dK kvs) = H4 at *
    have s4B := s12.trans u2
    have hd4B := s4B _ _ hd
    have hf4B := s4B _ _ hf
    refine ⟨d, .dK kvs, hd4B, trivial, fun odB => ?_⟩
    have hhB : HuAt (upd H4 d (.frz odB (.dK kvs))) fd x := HuAt.of (by rw [upd_ne nfd]; exact hf4B) hxn
    have hfzB : upd H4 d (.frz odB (.dK kvs)) d = some (.frz odB (.dK kvs)) := upd_same
    refine ⟨_, rfl, d, odB, rfl, .inl ⟨_, hfzB, fun DB hDB => ?_⟩⟩
    have nDB : DB ≠ d := fun e => by rw [e, upd_same] at hDB; cases hDB
    refine lcK (M := []) (l := vsf W) (rds_keys hP) (fun G v (r : Bool) => v = .bl r) (fun _ _ _ _ _ e => e) (fun v => some false) hDB al_nil (Nat.lt_trans hvl (by decide)) hfzB (fun b HB Ky Kn hb sB alB ky kn => ?_) (fun ys HB sB hDB3 hpB => ?_)
    · exact ⟨rfl, lcy ⟨_, rfl, _, rfl, fd, _, rfl, (up sB hhB).get (kin b hb), .int (hval x b), .ty "bool", _, _, false, rfl, .ty "bool", .base (.int _), kit_ty (by decide +kernel), ky _ false _ rfl (.refl _) rfl⟩⟩
    rw [filterMap_some] at hpB
    rw [paired_vals hpB] at hDB3
    obtain ⟨w1, w2, _⟩ := unlock_all (N := []) hd4B sB (by simp)
    refine ⟨w1, DB, _, rfl, SqL.of (by rw [upd_ne nDB]; exact hDB3), ?_⟩
    rw [show (((vsf W).map fun _ => false).any id) = false by simp]
    refine ⟨_, rfl, iteF ?_⟩
    generalize upd HB d (.dK kvs) = H4' at *
    have s4 := s4B.trans w2
    have hd4 := s4 _ _ hd
    have hf4 := s4 _ _ hf
    have hrd : RdsAt K H4' d W := up (R := RdsAt K) s4 hrdH
    refine ⟨d, .dK kvs, hd4, trivial, fun od2 => ?_⟩
    have hrdL : RdsAt K (upd H4' d (.frz od2 (.dK kvs))) d W := Mn.up (lock_sm hd4 trivial id) hrd
    have hhL2 : HuAt (upd H4' d (.frz od2 (.dK kvs))) fd x := HuAt.of (by rw [upd_ne nfd]; exact hf4) hxn
    have hfz2 : upd H4' d (.frz od2 (.dK kvs)) d = some (.frz od2 (.dK kvs)) := upd_same
    refine ⟨_, rfl, d, od2, rfl, .inl ⟨_, hfz2, fun D2 hD2 => ?_⟩⟩
    have nDd : D2 ≠ d := fun e => by rw [e, upd_same] at hD2; cases hD2
    refine lcK (M := []) (l := vsf W) (rds_keys hP) (fun G v (r : Bool) => v = .bl r) (fun _ _ _ _ _ e => e) (fun v => some true) hD2 al_nil (Nat.lt_trans hvl (by decide)) hfz2 (fun b H5 Ky Kn hb s5 al5 ky kn => ?_) (fun ys H5 s5 hD5 hp5 => ?_)
    · obtain ⟨ra, g2, g1⟩ := hrdL.getS hb
      refine ⟨rfl, lcy ⟨_, rfl, _, rfl, d, _, rfl, g1 _ s5, ra, rfl, ⟨_, up s5 g2⟩, fun D3 hD3' => ?_⟩⟩
      have hrl : (rdf W b).length ≤ 60 := Nat.le_trans (nodup_le (wf.rn b hb) fun u hu => (wf.ties b hb u hu).1) (by rw [List.length_map]; omega)
      refine lcL (K := K) (M := []) (paired_map V.str (rdf W b)) (fun G v (z : Bool) => v = .bl z) (fun _ _ _ _ _ e => e) (fun u => some true) hD3' al_nil (Nat.lt_of_le_of_lt hrl (by decide)) (up s5 g2) (fun v o H6 Ky2 Kn2 hbm e s6 al6 ky2 kn2 => ?_) (fun ys2 H6 s6 hD6 hp6 => ?_)
      · subst e
        have hok := kin _ (wf.ties b hb o hbm).1
        have hh6 := up (s5.trans s6) hhL2
        refine ⟨rfl, lcy ⟨_, rfl, _, rfl, fd, _, rfl, hh6.get hok, _, rfl, _, rfl, fd, _, rfl, hh6.get (kin _ hb), rfl, ?_⟩⟩
        have hne := (hxr b (kin _ hb)).2 o hbm hok
        rw [decide_eq_false (show ¬ V.int (hval x o) = V.int (hval x b) from fun e => hne (V.int.inj e))]
        exact ky2 _ true _ rfl (.refl _) rfl
      rw [filterMap_some] at hp6
      rw [paired_vals hp6] at hD6
      refine ⟨D3, _, rfl, SqL.of hD6, ?_⟩
      rw [show (((rdf W b).map fun _ => true).all id) = true by simp]
      exact ky _ _ _ rfl s6 rfl
    rw [filterMap_some] at hp5
    rw [paired_vals hp5] at hD5
    obtain ⟨v1, v2, _⟩ := unlock_all (N := []) hd4 s5 (by simp)
    refine ⟨v1, D2, _, rfl, SqL.of (by rw [upd_ne nDd]; exact hD5), ?_⟩
    rw [show (((vsf W).map fun _ => true).all id) = true by simp]
    exact k _ (s4.trans v2)
end
end Five
end
section
namespace Five
open PySem PySem.Spec PyProof.Rows L2
section
variable {K : PySem.W.Frag}
/-- what the law keeps of what was told -/
def SmAt (K : PySem.W.Frag) (G : Hp) (v : V) : SR → Prop
  | .hues x => ∃ d, v = .ref d ∧ G d = some (.dK (dk V.int x)) ∧ (ks x).Nodup
  | .cho e => Dp K G v e
theorem SmAt.s {G G' : Hp} {v : V} {r : SR} (h : SmAt K G v r) (s : Same G G') : SmAt K G' v r := by
  cases r with
  | hues x =>
    obtain ⟨d, a, b, c⟩ := h
    exact ⟨d, a, s _ _ b, c⟩
  | cho e => exact dp_s s h
theorem SmAt.td {G : Hp} {v : V} {r : SR} {t : Addr} (h : SmAt K G v r) (ht : G t = some (.tup [.str (kindS r), v])) : TdAt K G (.ref t) r := by
  cases r with
  | hues x =>
    obtain ⟨d, a, b, c⟩ := h
    subst a
    exact ⟨t, d, rfl, ht, b, c⟩
  | cho e => exact ⟨t, v, rfl, ht, h⟩
end
theorem FrN.tup {H G : Hp} {v : V} {r : SR} (h : FrN H G v r) : ∃ t u, v = .ref t ∧ H t = none ∧ G t = some (.tup [.str (kindS r), u]) := by
  cases h with
  | hues a b => exact ⟨_, _, rfl, a, b⟩
  | cho a b => exact ⟨_, _, rfl, a, b⟩
theorem lis_eta {L : List (Str × List Int)} (hn : (L.map (·.1)).Nodup) : (L.map (·.1)).map (fun q => (q, lsF L q)) = L := by
  rw [List.map_map]
  have : ∀ x ∈ L, ((fun q => (q, lsF L q)) ∘ fun x : Str × List Int => x.1) x = x := fun x hx => by
    show (x.1, lsF L x.1) = x
    rw [lsF_of hn hx]
  conv => rhs; rw [← List.map_id L]
  exact List.map_congr_left this
section
variable {P : Program} {w : World} {K : PySem.W.Frag} {mg : Str → Option Value} {base : Heap} {C f : Addr} {fd : FuncData} {cx : Nat → Addr}
def spLaw (K : PySem.W.Frag) : Sp := fun vs H Q _ => ∃ (a : Addr) (ns : List Int), vs = [.ref a] ∧ SqL K H a (ns.map V.int) ∧ ns.length ≤ 63 ∧ ∀ H', Q (.bl true) H'
theorem ok_law_fn (T : Txt K mg C cx) (F : Fun K "law" "law" s_law f fd) : FnOk P w K mg base CX0 34 f fd ["_law_script"] (spLaw K) := by
  refine F.ok sc_law (fun vs H Q E h => ?_) (fun cdv A outer s H vs Q E hr h => ?_)
  · obtain ⟨a, ns, rfl, _⟩ := h
    rfl
  · obtain ⟨a, ns, rfl, ha, hl, kk⟩ := h
    refine ⟨_, (pss_cons (ps_for PassesOwn.never (by rfl) (pi_range1 (by rfl) T.n_range (pa_cons (pe_callB (call_max2 rfl) (by rfl) T.n_max (by decide +kernel) (pa_cons pe_int (pa_cons (pe_callB (call_min2 rfl) (by rfl) T.n_min (by decide +kernel) (pa_cons pe_int (pa_cons (pe_callB (call_lenK (K := K)) (by rfl) T.n_len (by decide +kernel) (pa_cons (pv 0) pa_nil)) pa_nil))) pa_nil))) pa_nil)) (pg_name (i := 1) sc_law.nd rfl (Or.inl rfl)) (pss_cons (ps_set (i := 2) sc_law.nd rfl (Or.inl rfl) (pe_c (ok_law_pot T) hr (by decide) (by rfl) (pa_cons (pv 0) (pa_cons (pv 1) pa_nil))))
      (pss_cons (ps_set (i := 3) sc_law.nd rfl (Or.inl rfl) (pe_c (ok_law_rounds T) hr (by decide) (by rfl) (pa_cons (pv 2) (pa_cons pe_int pa_nil))))
      (pss_cons (ps_set (i := 4) sc_law.nd rfl (Or.inl rfl) (pe_c (ok_law_web T) hr (by decide) (by rfl) (pa_cons (pv 2) (pa_cons (pv 3) pa_nil))))
      (pss_cons (ps_set (i := 5) sc_law.nd rfl (Or.inr rfl) (pe_c (ok_law_lists T) hr (by decide) (by rfl) (pa_cons (pv 2) (pa_cons (pv 3) pa_nil))))
      (pss_cons (ps_set (i := 6) sc_law.nd rfl (Or.inl rfl) (pe_callTy (call_dictK (K := K) rfl) (by rfl) T.n_dict (by decide +kernel) (pa_cons (pe_lock (pe_lc (own := [("_law_name", 10)]) (by rfl) sc_law.nd (pi_keys (pv 5)) (blkOk_by (own := [("_law_name", 10)]) (N := N_law) (sc := defScope s_law) (by decide +kernel)) (fun _ _ _ _ _ => (pg_name (i := 10) sc_law.nd rfl (Or.inl rfl))) (fun _ _ _ _ _ => pts_nil) (fun _ _ _ _ _ => (pe_tup (pa_cons (pv 10) (pa_cons (pe_callTy (call_listK (K := K)) (by rfl) T.n_list (by decide +kernel) (pa_cons (pe_dget (hu_of hr) (pv 5) (pv 10) (fun _ _ => rfl)) pa_nil)) pa_nil)))))) pa_nil)))
      (pss_cons (ps_set (i := 7) sc_law.nd rfl (Or.inl rfl) (pe_cX (okX_from_lists T) hr (by decide) (by rfl) (fun σ => L2N.passAt takesN σ) (pa_cons (pv 4) (pa_cons (pv 5) pa_nil))))
      (pss_cons (ps_set (i := 8) sc_law.nd rfl (Or.inl rfl) (pe_ix (ix_tupK (K := K)) (pe_c (ok_law_choice T) hr (by decide) (by rfl) (pa_cons (pv 3) (pa_cons (pv 5) (pa_cons (pe_callB (call_srtD rfl) (by rfl) T.n_sorted (by decide +kernel) (pa_cons (pv 3) pa_nil)) (pa_cons pe_dnewK pa_nil))))) pe_int (fun _ _ => rfl)))
      (pss_cons (ps_if (PW.pt (pw_or (pt_cmpR (op_ne_dictL (K := K) (un100 hr)) (pv 5) (pv 6) (nomark _)) (pw_or1 (pt_cmpR op_ne (pe_ix (ix_tupK (K := K)) (pv 7) pe_int (fun _ _ => rfl)) (pv 8) (nomark _))))) (pss_one (ps_ret pe_bl)) pss_nil)
      (pss_cons (ps_if (pt_cmpR op_eq (pv 8) pe_str (nomark _)) (pss_cons (ps_if (pt_not (pt_val (pe_c (ok_law_are_right T) hr (by decide) (by rfl) (pa_cons (pv 3) (pa_cons (pv 5) (pa_cons (pe_ix (ix_tupK (K := K)) (pv 7) pe_int (fun _ _ => rfl)) pa_nil)))))) (pss_one (ps_ret pe_bl)) pss_nil)
      (pss_cons (ps_set (i := 9) sc_law.nd rfl (Or.inl rfl) (pe_callTy call_dictD (by rfl) T.n_dict (by decide +kernel) (pa_cons (pe_ix (ix_tupK (K := K)) (pv 7) pe_int (fun _ _ => rfl)) pa_nil)))
      (pss_one (ps_expr (pe_dclear (pe_ix (ix_tupK (K := K)) (pv 7) pe_int (fun _ _ => rfl))))))) (pss_cons (ps_if (PW.pt (pw_or (pt_not (pt_val (pe_c (ok_law_reads T) hr (by decide) (by rfl) (pa_cons (pv 3) (pa_cons (pv 5) (pa_cons (pe_ix (ix_tupK (K := K)) (pv 7) pe_int (fun _ _ => rfl)) (pa_cons pe_dnewK pa_nil))))))) (pw_or1 (pt_cmpR op_isnot_bl (pe_c (ok_is_read T) hr (by decide) (by rfl) (pa_cons (pv 4) (pa_cons (pv 5) (pa_cons (pe_ix (ix_tupK (K := K)) (pv 7) pe_int (fun _ _ => rfl)) pa_nil)))) pe_bl (nomark _))))) (pss_one (ps_ret pe_bl)) pss_nil)
      (pss_cons (ps_set (i := 9) sc_law.nd rfl (Or.inl rfl) (pe_c (ok_law_copied T) hr (by decide) (by rfl) (pa_cons (pe_ix (ix_tupK (K := K)) (pv 7) pe_int (fun _ _ => rfl)) pa_nil)))
      (pss_one (ps_expr (pe_c (ok_law_emptied T) hr (by decide) (by rfl) (pa_cons (pe_ix (ix_tupK (K := K)) (pv 7) pe_int (fun _ _ => rfl)) pa_nil)))))))
      (pss_cons (ps_if (PW.pt (pw_or (pt_cmpR (op_or2 (op_neTW (K := K) hr.units) (op_neDK (K := K) hr.units)) (pe_cX (okX_from_lists T) hr (by decide) (by rfl) (fun σ => L2N.passAt takesN σ) (pa_cons (pv 4) (pa_cons (pv 5) pa_nil))) (pe_tup (pa_cons (pv 8) (pa_cons (pv 9) pa_nil))) (nomark _)) (pw_or1 (pt_cmpR (op_ne_dictL (K := K) (un100 hr)) (pv 5) (pv 6) (nomark _))))) (pss_one (ps_ret pe_bl)) pss_nil)
      (pss_one (ps_if (pt_cmpR (op_or2 (op_neTW (K := K) hr.units) (op_neDK (K := K) hr.units)) (pe_cX (okX_from_lists T) hr (by decide) (by rfl) (fun σ => L2N.passAt takesN σ) (pa_cons (pe_c (ok_law_web T) hr (by decide) (by rfl) (pa_cons (pv 2) (pa_cons (pv 3) pa_nil))) (pa_cons (pv 5) pa_nil))) (pe_tup (pa_cons (pv 8) (pa_cons (pv 9) pa_nil))) (nomark _)) (pss_one (ps_ret pe_bl)) pss_nil)))))))))))))
      (pss_one (ps_ret pe_bl))), ?_⟩
    refine ⟨_, rfl, a, _, rfl, .inl ha, _, _, rfl, _, _, rfl, ?_⟩
    generalize hm : (if (if (((ns.map V.int).length : Nat) : Int) < (6 : Int) then (((ns.map V.int).length : Nat) : Int) else (6 : Int)) > 2 then (if (((ns.map V.int).length : Nat) : Int) < (6 : Int) then (((ns.map V.int).length : Nat) : Int) else (6 : Int)) else 2) = m
    have hmb : 1 ≤ m ∧ m ≤ 6 := by
      rw [← hm]
      split <;> split <;> omega
    refine ⟨m, rfl, by omega, by omega, for_range (lo := 0) (n := m.toNat) (fun i σ H' => ∃ (y1 y2 y3 y4 y5 y6 y7 y8 y9 y10 : Option V), σ = [some (.ref a), y1, y2, y3, y4, y5, y6, y7, y8, y9, y10] ∧ Same H H') ?_ ?_ ?_⟩
    · exact ⟨_, _, _, _, _, _, _, _, _, _, rfl, .refl _⟩
    · rintro i σ H' hi ⟨y1, y2, y3, y4, y5, y6, y7, y8, y9, y10, rfl, sm⟩
      refine ⟨_, rfl, _, rfl, a, ns, _, rfl, sm.seq ha, hl, by omega, by omega, fun p H1 s1 hp pot1 => ?_⟩
      have hp0 : H p = none := sm.free hp
      refine ⟨_, rfl, p, 8, rfl, pot1, by decide, fun d W H3 d3 hd ndp hg pl hnmW hWl => ?_⟩
      refine ⟨_, rfl, _, rfl, p, d, W, rfl, hg, d3.pot, ndp, by omega, pl, hnmW, fun x rows H4 d4 hx hweb ok hrot => ?_⟩
      have hg4 := hg.dr ndp d4
      have hvl : (vsf W).length ≤ 8 := by rw [List.length_map]; omega
      refine ⟨_, rfl, _, rfl, p, d, W, rfl, hg4, d4.pot, ndp, by omega, pl.wf.nd, fun la L H5 d5 hla hL hLk hL3 hlkv nlp => ?_⟩
      have hLl : L.length ≤ 8 := by
        have := congrArg List.length hLk
        rw [List.length_map, srt_length] at this
        omega
      have hLn := hL.nd
      have hKL : KeysW W L := fun q => by rw [hLk]; exact srt_mem
      have pot5 := d5.pot
      have eR := web_rot hrot pl.wf.nd pl.wf.rn
      have okR := ok.web
      obtain ⟨cs, ps, Fd, Cd, eu⟩ := okR.pl.flat
      have evM : ∀ v, v ∈ vsf (webRows rows) ↔ v ∈ vsf W := fun v => vsf_web_mem.trans hrot.vs.mem_iff
      have hRl : (webRows rows).length = (vsf W).length := by rw [web_len]; have := hrot.vs.length_eq; rw [List.length_map] at this; exact this
      have hL5 : LisAt K H5 la L := hL.s wo_same
      obtain ⟨lkv, hlkv5⟩ := hlkv
      obtain ⟨kvs0, hk0, hkk0⟩ := hL5.is
      have elk : lkv = kvs0 := by
        rcases hk0 with h | ⟨o, h⟩
        · rw [hlkv5] at h; cases h; rfl
        · rw [hlkv5] at h; cases h
      subst elk
      have hkeys : lkv.map (·.1) = (L.map (·.1)).map Sum.inr := by rw [hkk0, List.map_map]; rfl
      -- a copy of the lists
      refine ⟨la, .dK lkv, hlkv5, trivial, fun od => ?_⟩
      have hLL : LisAt K (upd H5 la (.frz od (.dK lkv))) la L := hL5.sm (lock_sm hlkv5 trivial id)
      have hfz : upd H5 la (.frz od (.dK lkv)) la = some (.frz od (.dK lkv)) := upd_same
      refine ⟨_, rfl, la, od, rfl, .inl ⟨_, hfz, fun D hD => ?_⟩⟩
      have nDl : D ≠ la := fun e => by rw [e, upd_same] at hD; cases hD
      refine lcK (M := []) (l := L.map (·.1)) hkeys (fun G v (x : Str × List Int) => ∃ t, v = .ref t ∧ TLI K G t x) (rV_up (R := TLI K)) (fun q => some (q, lsF L q)) hD al_nil (Nat.lt_of_le_of_lt (show (L.map (·.1)).length ≤ 8 by rw [List.length_map]; exact hLl) (by decide)) hfz (fun q HB Ky Kn hb sB alB ky kn => ?_) (fun ys HB sB hDB hpB => ?_)
      · obtain ⟨lb, g1, g2⟩ := (hLL.s sB).get hb
        refine ⟨rfl, lcy ⟨_, rfl, _, rfl, _, rfl, la, _, rfl, g1, lb, _, rfl, .inl g2, fun b hb' => ⟨by show 2 ≤ sizeLine; decide, fun t ht => ky _ (q, lsF L q) _ rfl ((Same.new hb').trans (.new ht)) ⟨t, rfl, b, ?_, ?_⟩⟩⟩⟩
        · exact SqT.of (by rw [wo_out (alB.upd.fresh ht), upd_same])
        · refine SqL.of ?_
          rw [wo_out (alB.fresh hb')]
          exact Same.new ht _ _ upd_same
      rw [filterMap_some, lis_eta hLn] at hpB
      obtain ⟨ts, rfl, hts⟩ := paired_refs hpB
      obtain ⟨u1, u2, u3⟩ := unlock_all (N := [D]) hlkv5 sB (fun q => nDl (List.mem_singleton.mp q).symm)
      refine ⟨u1, ?_⟩
      have hts2 : Paired (TLI K (wo (upd HB la (.dK lkv)) [D])) ts L := Paired.mapP hts fun t x q => by
        obtain ⟨b, q1, q2⟩ := q
        exact ⟨b, u3.seqT q1, u3.seq q2⟩
      have hD2 : upd HB la (.dK lkv) D = some (.lst (ts.map V.ref)) := by rw [upd_ne nDl]; exact hDB
      generalize upd HB la (.dK lkv) = HC at *
      obtain ⟨hb, q1, q2⟩ := tli_dk hts2
      refine ⟨D, ts, dk V.ref hb, rfl, SqL.of hD2, Paired.mapP q1 fun _ _ q => wo_same.sm.seqT q, fun bd hbd => ?_⟩
      obtain ⟨hB, hBv⟩ := lis_new (Paired.mapP q2 fun _ _ q => ⟨q.1, wo_same.sm.seq q.2⟩) hLn hbd
      have sE : Same H5 (upd HC bd (.dK (mergeK [] (dk V.ref hb)))) := u2.trans (.new hbd)
      generalize upd HC bd (.dK (mergeK [] (dk V.ref hb))) = H7 at *
      have d57 : Dr p H5 H7 := (Dr.refl pot5).same sE
      have d47 : Dr p H4 H7 := d5.trans d57
      have hw7 : WebAt K C H7 x (webRows rows) := up d47.s hweb
      have hL7 : LisAt K H7 la L := hL5.s sE
      have hLw7 : LisAt K (wo H7 [p]) la L := hL.s (Dr.wos (M := []) d57)
      have hg7 : GD K p d H7 W := hg4.dr ndp d47
      obtain ⟨kvs7, hk7, hkP7⟩ := id hg7
      have hlen10 : ∀ q, (lsF L q).length ≤ 10 := fun q => by
        unfold lsF
        cases hf : L.find? (fun x => decide (x.1 = q)) with
        | none => exact Nat.zero_le _
        | some l => exact Nat.le_trans (hL3 l (List.mem_of_find?_eq_some hf)) (by decide)
      have hKR : KeysW (webRows rows) L := fun q => (hKL q).trans (evM q).symm
      have hR12 : (webRows rows).length ≤ 12 := by omega
      -- what is told
      refine ⟨_, rfl, _, rfl, x, la, webRows rows, L, ps, rfl, hw7, okR, hL7, ⟨_, sE _ _ hlkv5⟩, by omega, fun q _ => hlen10 q, Cd, fun z => absurd hKR z, fun _ z => absurd z (by omega), fun _ _ v H8 s8 hf => ?_⟩
      have key := told_right okR Cd (fun q _ => hlen10 q) hR12
      generalize hr8 : toldF (webRows rows) (lsF L) ps = r at hf key
      have s78 := s8
      have hrds8 : RdsAt K H8 d W := ⟨kvs7, .inl (s8 _ _ hk7), Paired.mapP hkP7 fun _ _ q => rowKV_up (wo_same.trans s8).sm q⟩
      refine ⟨_, rfl, _, rfl, _, rfl, d, kvs7, vsf W, rfl, .inl (s8 _ _ hk7), rds_keys (Paired.mapP hkP7 fun _ _ q => rowKV_up wo_same.sm q), Nat.lt_of_le_of_lt hvl (by decide), fun sl hsl nd hnd => ?_⟩
      have s9 : Same H8 (upd (upd H8 sl (.lst ((srt (vsf W)).map V.str))) nd (.dK [])) := (Same.new hsl).trans (.new hnd)
      have hsl9 : upd (upd H8 sl (.lst ((srt (vsf W)).map V.str))) nd (.dK []) sl = some (.lst ((srt (vsf W)).map V.str)) := Same.new hnd _ _ upd_same
      have hnd9 : upd (upd H8 sl (.lst ((srt (vsf W)).map V.str))) nd (.dK []) nd = some (.dK []) := upd_same
      generalize upd (upd H8 sl (.lst ((srt (vsf W)).map V.str))) nd (.dK []) = H9 at *
      have hsrtn : (srt (vsf W)).Nodup := (srt_perm _).nodup_iff.mpr pl.wf.nd
      refine ⟨d, la, sl, nd, W, L, [], srt (vsf W), rfl, up (R := RdsAt K) s9 hrds8, (hL7.s s8).s s9, hKL, fun q _ => Nat.le_trans (hlen10 q) (by decide), HuAt.of hnd9 List.nodup_nil, SqL.of hsl9, by rw [srt_length]; exact hvl, by decide, hsrtn, fun q hq => ⟨srt_mem.mp hq, fun z => nomatch z⟩, fun t2 u2' H10 s10 ht2 => ?_⟩
      have LW : LisW (srd W) (vsf W) (lsF L) := ⟨fun q hq o ho => let ⟨b1, b2, b3⟩ := pl.wf.ties q hq o (srt_mem.mp ho); ⟨b1, srt_mem.mpr b3, b2⟩, hnmW, fun q _ => hlen10 q⟩
      have keyL := law_ok LW 8 [] (srt (vsf W)) (by rw [srt_length]; exact hvl) hsrtn List.nodup_nil (fun q hq => ⟨srt_mem.mp hq, fun z => nomatch z⟩) (fun q hq => nomatch hq) (fun q hq => nomatch hq)
      have emR : ∀ v ∈ vsf W, ∀ u, u ∈ rdf (webRows rows) v ↔ u ∈ rdf W v := fun v hv u => by
        rw [rdf_web (hrot.vs.mem_iff.mpr hv), fl_mem]
        obtain ⟨Lr, M, e1, e2⟩ := hrot.rd pl.wf.nd hv
        rw [e1, e2, List.mem_append, List.mem_append]
        exact or_comm
      have hkind : kindS (lawF (srd W) (lsF L) 8 [] (srt (vsf W))) = kindS r := by
        refine (kinds_eq (rd := rdf (webRows rows)) (rd' := srd W) (ls := lsF L) (vs := vsf (webRows rows)) (vs' := vsf W) (n := 12) (n' := 8) (fun q hq o ho => (okR.pl.wf.ties q hq o ho).1) (fun q hq o ho => (LW.ti q hq o ho).1) evM (fun q hq o => (emR q ((evM q).mp hq) o).trans srt_mem.symm) ?_ ?_).symm
        · cases r with
          | hues xx => exact key
          | cho e => exact key.2 12 (Nat.le_refl _)
        · cases hl8 : lawF (srd W) (lsF L) 8 [] (srt (vsf W)) with
          | hues xx =>
            rw [hl8] at keyL
            exact ⟨keyL.1.trans (by simpa [ks] using srt_perm _), keyL.2⟩
          | cho e =>
            rw [hl8] at keyL
            exact keyL.2.2 8 (by rw [srt_length]; exact hvl)
      rw [hkind] at ht2
      refine ⟨t2, _, 0, _, rfl, rfl, SqT.of ht2, rfl, ?_⟩
      have s80 := s9.trans s10
      have s70 := s8.trans s80
      obtain ⟨t, u, rfl, ht0, ht8⟩ := hf.tup
      have ht10 := s80 _ _ ht8
      have hL10 : LisAt K H10 la L := hL7.s s70
      have hB10 : LisAt K H10 bd L := hB.s s70
      have hlk10 : H10 la = some (.dK lkv) := s70 _ _ (sE _ _ hlkv5)
      have hbk10 : H10 bd = some (.dK (dk V.ref hb)) := s70 _ _ hBv
      refine ⟨_, rfl, _, rfl, lis_same hL10 hB10 ⟨_, hlk10⟩ ⟨_, hbk10⟩ ⟨false, rfl, ?_⟩⟩
      show if (false : Bool) = true then _ else _
      refine iteF ⟨_, rfl, t, _, 0, _, rfl, rfl, SqT.of ht10, rfl, _, rfl, rfl, _, rfl, iteNS rfl ?_⟩
      have hrdP : ∀ {G : Hp}, Same H7 G → Paired (RowKV K (wo G [d])) kvs7 W := fun {G} s => Paired.mapP hkP7 fun _ _ q => rowKV_up (Same.sm (fun b o e => by
        obtain ⟨q1, q2⟩ := wo_get e
        simp at q2
        rw [wo_out (by simp [q2.1])]
        exact s _ _ q1)) q
      have hn810 : Same (nw H7 H8) H10 := nw_same.trans s80
      refine joinS2 (fun σ' G => ∃ (sv : V) (y10 : Option V), σ' = [some (.ref a), some (.int (0 + (i : Int))), some (.ref p), some (.ref d), some (.ref x), some (.ref la), some (.ref bd), some (.ref t), some (.str (kindS r)), some sv, y10] ∧ Same H7 G ∧ SmAt K (wo G [p]) sv r) (fun rest => ?_) ?_
      · cases r with
        | hues xx =>
          cases hf with
          | @hues _ fd' _ _ h2 h3 h4 h5 =>
            rw [h2] at ht8
            cases ht8
            have hfd10 := s80 _ _ h4
            have nfd : fd' ≠ d := fun e => by rw [e, hk7] at h3; cases h3
            refine ⟨_, rfl, rfl, _, rfl, iteYes rfl ?_⟩
            refine ⟨_, rfl, _, rfl, _, rfl, t, _, 1, _, rfl, rfl, SqT.of ht10, rfl, d, la, fd', W, kvs7, L, xx, rfl, s70 _ _ hk7, hrdP s70, by omega, pl.wf, hL10, hKL, nfd, hfd10, h5, ?_, ?_, fun G1 s1' => ⟨_, rfl, iteF ?_⟩⟩
            · exact perm_of_mem h5 pl.wf.nd fun q => (key.1.mem_iff).trans (evM q)
            · exact key.2.congr fun q hq o ho => (emR q ((evM q).mp (key.1.mem_iff.mp hq)) o).mpr ho
            have ht11 := s1' _ _ ht10
            have hfd11 := s1' _ _ hfd10
            refine ⟨_, rfl, t, _, 1, _, rfl, rfl, SqT.of ht11, rfl, fd', _, rfl, .inl hfd11, fun nd2 hnd2 => ?_⟩
            have s2' : Same G1 (upd G1 nd2 (.dK (dk V.int xx))) := .new hnd2
            have hnd22 : upd G1 nd2 (.dK (dk V.int xx)) nd2 = some (.dK (dk V.int xx)) := upd_same
            have nnp : nd2 ≠ p := ((Dr.refl d57.pot).same (s70.trans s1')).ne hnd2
            have nn : nd2 ≠ fd' := fun e => by rw [e, hfd11] at hnd2; cases hnd2
            have s72 := (s70.trans s1').trans s2'
            have ht12 := s2' _ _ ht11
            have hfd12 := s2' _ _ hfd11
            generalize upd G1 nd2 (.dK (dk V.int xx)) = G2 at *
            refine ⟨_, rfl, t, _, 1, _, rfl, rfl, SqT.of ht12, rfl, .inr (.inr (.inl ⟨rfl, .inl ⟨_, hfd12⟩⟩)), fd', _, rfl, rfl, hfd12, ?_⟩
            exact rest _ _ ⟨_, _, rfl, s72.mut h3, nd2, rfl, by rw [wo_out (by simpa using nnp), upd_ne nn]; exact hnd22, h5⟩
        | cho e =>
          cases hf with
          | @cho _ u' _ As _ h2 h3 h4 =>
            rw [h2] at ht8
            cases ht8
            have hcw : Cw 14 e := key.1.le (by decide)
            have hwy : Wy 13 e := key.1.wy.succ
            have hu10 : ChW H10 u e As := h3.s hn810
            refine ⟨_, rfl, rfl, _, rfl, iteNo (fun z => absurd (show ("choice" : Str) = "hues" from V.str.inj z) (by decide +kernel)) ?_⟩
            refine ⟨_, rfl, _, rfl, _, rfl, t, _, 1, _, rfl, rfl, SqT.of ht10, rfl, fun nd2 hnd2 => ?_⟩
            have s2' : Same H10 (upd H10 nd2 (.dK [])) := .new hnd2
            have hnd22 : upd H10 nd2 (.dK []) nd2 = some (.dK []) := upd_same
            have s72 := s70.trans s2'
            generalize upd H10 nd2 (.dK []) = G2 at *
            have hrd2 : RdsAt K G2 d W := ⟨kvs7, .inl (s72 _ _ hk7), Paired.mapP hkP7 fun _ _ q => rowKV_up (wo_same.trans s72).sm q⟩
            refine ⟨d, la, nd2, u, W, L, [], e, rfl, hrd2, hL7.s s72, hKL, (hu10.s s2').dp, hcw, HuAt.of hnd22 List.nodup_nil, by decide, fun G3 s3 => ?_⟩
            have erd : readF (rdf W) (vsf W) (lsF L) (14 + 1) [] e = true := by
              rw [← readF_congr (rd := rdf (webRows rows)) (vs := vsf (webRows rows)) evM (fun q hq o => emR q ((evM q).mp hq) o) 15 [] e]
              exact key.2 15 (by decide)
            rw [erd]
            refine ⟨_, rfl, iteF ?_⟩
            have s73 := s72.trans s3
            have ht3 := (s2'.trans s3) _ _ ht10
            refine ⟨_, rfl, _, rfl, _, rfl, t, _, 1, _, rfl, rfl, SqT.of ht3, rfl, x, la, u, webRows rows, L, e, rfl, up (R := WebAt K C) s73 hw7, hL7.s s73, hKR, (hu10.s (s2'.trans s3)).dp, hcw, fun G4 s4 => ?_⟩
            rw [key.2 15 (by decide)]
            refine ⟨true, true, rfl, rfl, _, rfl, iteF ?_⟩
            have s74 := s73.trans s4
            have s104 := (s2'.trans s3).trans s4
            have ht4 := s104 _ _ ht10
            refine ⟨_, rfl, t, _, 1, _, rfl, rfl, SqT.of ht4, rfl, nw H7 H8, p :: As, u, e, As, rfl, hn810.trans s104, fun b hb' z => ?_, fun b hb' ys z => ?_, h3, hwy, fun v' G5 s5 hv' => ?_⟩
            · rcases List.mem_cons.mp hb' with q | q
              · rw [q] at z
                exact ((Dr.refl d57.pot).same s74).pot.ne z
              · obtain ⟨ys, q⟩ := (hu10.s s104).ls b q
                rw [q] at z; cases z
            · rcases List.mem_cons.mp hb' with q | q
              · rw [q] at z
                exact d57.pot.ne (nw_get z).1
              · obtain ⟨ys', q⟩ := h3.ls b q
                rw [q] at z; cases z
            have ht5 := s5 _ _ ht4
            refine ⟨_, rfl, t, _, 1, _, rfl, rfl, SqT.of ht5, rfl, u, e, As, rfl, hu10.s (s104.trans s5), h4, hwy, fun G6 s6 => ?_⟩
            refine rest _ _ ⟨v', _, rfl, fun b o q => s6 _ _ ?_, dp_s (fun b o q => ?_) hv'⟩
            rotate_left
            · obtain ⟨q1, q2⟩ := wo_get q
              simp only [List.mem_cons, not_or] at q2
              rw [wo_out (by simpa using q2.1)]
              exact s6 _ _ (by rw [wo_out q2.2]; exact q1)
            rw [wo_out fun z => ?_]
            · exact (s74.trans s5) _ _ q
            · obtain ⟨ys, q2⟩ := h3.ls b z
              rw [(nw_get q2).1] at q; cases q
      rintro σ' G ⟨sv, y10, rfl, sG, hsm⟩
      have hc11 : ∀ e, r = .cho e → Cw 11 e := fun e he => by
        rw [he] at key
        exact key.1
      -- told again
      refine ⟨_, rfl, _, rfl, x, la, webRows rows, L, ps, rfl, up (R := WebAt K C) sG hw7, okR, hL7.s sG, ⟨_, sG _ _ (sE _ _ hlkv5)⟩, by omega, fun q _ => hlen10 q, Cd, fun z => absurd hKR z, fun _ z => absurd z (by omega), fun _ _ v2 G2 s2 hf2 => ?_⟩
      rw [hr8] at hf2
      refine ⟨_, rfl, _, rfl, by show 2 ≤ sizeLine; decide, fun t3 ht3 => ?_⟩
      have s3 : Same G2 (upd G2 t3 (.tup [.str (kindS r), sv])) := .new ht3
      refine ne_td (hf2.td (nw_same.trans s3)) (SmAt.td (hsm.s (wo_same.trans (s2.trans s3))) upd_same) hc11 ⟨false, rfl, ?_⟩
      show if (false : Bool) = true then _ else _
      refine iteF ?_
      have s7G := (sG.trans s2).trans s3
      have hsm3 : SmAt K (wo (upd G2 t3 (.tup [.str (kindS r), sv])) [p]) sv r := hsm.s (Same.wo (s2.trans s3))
      generalize upd G2 t3 (.tup [.str (kindS r), sv]) = G3 at *
      refine ⟨_, rfl, _, rfl, lis_same (hL7.s s7G) (hB.s s7G) ⟨_, s7G _ _ (sE _ _ hlkv5)⟩ ⟨_, s7G _ _ hBv⟩ ⟨false, rfl, ?_⟩⟩
      show if (false : Bool) = true then _ else _
      refine iteF ?_
      -- of another web with the same rounds
      have d7G : Dr p H7 G3 := (Dr.refl d57.pot).same s7G
      refine ⟨_, rfl, _, rfl, p, d, W, rfl, hg7.dr ndp d7G, d7G.pot, ndp, by omega, pl, hnmW, fun x2 rows2 G4 d4' hx2 hweb2 ok2 hrot2 => ?_⟩
      have eR2 : webRows rows2 = webRows rows := (web_rot hrot2 pl.wf.nd pl.wf.rn).trans eR.symm
      rw [eR2] at hweb2
      have d74 := d7G.trans d4'
      have hlaG : G4 la = some (.dK lkv) := d74.get nlp (sE _ _ hlkv5)
      refine ⟨_, rfl, x2, la, webRows rows, L, ps, rfl, up (R := WebAt K C) wo_same hweb2, okR, hLw7.s (Dr.wos (M := []) d74) |>.s wo_same, ⟨_, hlaG⟩, by omega, fun q _ => hlen10 q, Cd, fun z => absurd hKR z, fun _ z => absurd z (by omega), fun _ _ v4 G5 s5 hf5 => ?_⟩
      rw [hr8] at hf5
      refine ⟨_, rfl, _, rfl, by show 2 ≤ sizeLine; decide, fun t6 ht6 => ?_⟩
      have s6 : Same G5 (upd G5 t6 (.tup [.str (kindS r), sv])) := .new ht6
      have hsm6 : SmAt K (upd G5 t6 (.tup [.str (kindS r), sv])) sv r := hsm3.s fun b o q => by
        obtain ⟨q1, q2⟩ := wo_get q
        exact (s5.trans s6) _ _ (d4'.get (by simpa using q2) q1)
      refine ne_td (hf5.td (nw_same.trans s6)) (SmAt.td hsm6 upd_same) hc11 ⟨false, rfl, ?_⟩
      show if (false : Bool) = true then _ else _
      refine iteF ?_
      refine ⟨_, _, _, _, _, _, _, _, _, _, rfl, fun b o q => ?_⟩
      have n2 : b ≠ p := ne_of_none q hp0
      exact (s5.trans s6) _ _ (d74.get n2 (d47.get n2 (d4.get n2 (d3.get n2 (s1 _ _ (sm _ _ q))))))
    · rintro σ H' ⟨y1, y2, y3, y4, y5, y6, y7, y8, y9, y10, rfl, sm⟩
      exact kk H'
end
end Five
end
namespace Five
open PySem PySem.Spec PyProof.Rows L2
theorem all_mk {l : PySem.W.OpenLaw} {w : World} {K : PySem.W.Frag} {h : Heap} {mg : Str → Option Value} {fa C : Addr} {f1 f2 f3 f4 f5 f6 f7 f8 f9 f10 f11 f12 f13 f14 f15 f16 f17 f18 f19 f20 f21 f22 f23 f24 f25 f26 f27 f28 f29 f30 f31 f32 f33 f34 f35 f36 f37 f38 f39 f40 e0 e1 e2 e3 e4 e5 e6 f41 f42 f43 f44 f45 : Addr} (X : K.In h) (G : h.Ns mainGlobals mg) (hfa : mg "law" = some (.ref fa))
    {od1 an1 od2 an2 od3 an3 od4 an4 od5 an5 od6 an6 od7 an7 od8 an8 od9 an9 od10 an10 od11 an11 od12 an12 od13 an13 od14 an14 od15 an15 od16 an16 od17 an17 od18 an18 od19 an19 od20 an20 od21 an21 od22 an22 od23 an23 od24 an24 od25 an25 od26 an26 od27 an27 od28 an28 od29 an29 od30 an30 od31 an31 od32 an32 od33 an33 od34 an34 od35 an35 od36 an36 od37 an37 od38 an38 od39 an39 od40 an40 od41 an41 od42 an42 od43 an43 od44 an44 od45 an45 : Option Addr} {sl1 sl2 sl3 sl4 sl5 sl6 sl7 sl8 sl9 sl10 sl11 sl12 sl13 sl14 sl15 sl16 sl17 sl18 sl19 sl20 sl21 sl22 sl23 sl24 sl25 sl26 sl27 sl28 sl29 sl30 sl31 sl32 sl33 sl34 sl35 sl36 sl37 sl38 sl39 sl40 sl41 sl42 sl43 sl44 sl45 : Array (Option Value)} {oc1 kV1 dc1 pm1 cd1 ct1 oc2 kV2 dc2 pm2 cd2 ct2 oc3 kV3 dc3 pm3 cd3 ct3 oc4 kV4 dc4 pm4 cd4 ct4 oc5 kV5 dc5 pm5 cd5 ct5 oc6 kV6 dc6 pm6 cd6 ct6 oc7 kV7 dc7 pm7 cd7 ct7 oc8 kV8 dc8 pm8 cd8 ct8 oc9 kV9 dc9 pm9 cd9 ct9 oc10 kV10 dc10 pm10 cd10 ct10 oc11 kV11 dc11 pm11 cd11 ct11 oc12 kV12 dc12 pm12 cd12 ct12 oc13 kV13 dc13 pm13 cd13 ct13 oc14 kV14 dc14 pm14 cd14 ct14 oc15 kV15 dc15 pm15 cd15 ct15 oc16 kV16 dc16 pm16 cd16 ct16 oc17 kV17 dc17 pm17 cd17 ct17 oc18 kV18 dc18 pm18 cd18 ct18 oc19 kV19 dc19 pm19 cd19 ct19 oc20 kV20 dc20 pm20 cd20 ct20 oc21 kV21 dc21 pm21 cd21 ct21 oc22 kV22 dc22 pm22 cd22 ct22 oc23 kV23 dc23 pm23 cd23 ct23 oc24 kV24 dc24 pm24 cd24 ct24 oc25 kV25 dc25 pm25 cd25 ct25 oc26 kV26 dc26 pm26 cd26 ct26 oc27 kV27 dc27 pm27 cd27 ct27 oc28 kV28 dc28 pm28 cd28 ct28 oc29 kV29 dc29 pm29 cd29 ct29 oc30 kV30 dc30 pm30 cd30 ct30 oc31 kV31 dc31 pm31 cd31 ct31 oc32 kV32 dc32 pm32 cd32 ct32 oc33 kV33 dc33 pm33 cd33 ct33 oc34 kV34 dc34 pm34 cd34 ct34 oc35 kV35 dc35 pm35 cd35 ct35 oc36 kV36 dc36 pm36 cd36 ct36 oc37 kV37 dc37 pm37 cd37 ct37 oc38 kV38 dc38 pm38 cd38 ct38 oc39 kV39 dc39 pm39 cd39 ct39 oc40 kV40 dc40 pm40 cd40 ct40 oc41 kV41 dc41 pm41 cd41 ct41 oc42 kV42 dc42 pm42 cd42 ct42 oc43 kV43 dc43 pm43 cd43 ct43 oc44 kV44 dc44 pm44 cd44 ct44 oc45 kV45 dc45 pm45 cd45 ct45 : Value}
    (z_abs : PySem.W.nsIn K mainGlobals "abs" = some none)
    (z_all : PySem.W.nsIn K mainGlobals "all" = some none)
    (z_any : PySem.W.nsIn K mainGlobals "any" = some none)
    (z_bool : PySem.W.nsIn K mainGlobals "bool" = some none)
    (z_dict : PySem.W.nsIn K mainGlobals "dict" = some none)
    (z_divmod : PySem.W.nsIn K mainGlobals "divmod" = some none)
    (z_isinstance : PySem.W.nsIn K mainGlobals "isinstance" = some none)
    (z_len : PySem.W.nsIn K mainGlobals "len" = some none)
    (z_list : PySem.W.nsIn K mainGlobals "list" = some none)
    (z_max : PySem.W.nsIn K mainGlobals "max" = some none)
    (z_min : PySem.W.nsIn K mainGlobals "min" = some none)
    (z_range : PySem.W.nsIn K mainGlobals "range" = some none)
    (z_set : PySem.W.nsIn K mainGlobals "set" = some none)
    (z_sorted : PySem.W.nsIn K mainGlobals "sorted" = some none)
    (z_str : PySem.W.nsIn K mainGlobals "str" = some none)
    (z_sum : PySem.W.nsIn K mainGlobals "sum" = some none)
    (z_tuple : PySem.W.nsIn K mainGlobals "tuple" = some none)
    (c_LETTERS : ∃ t, PySem.W.nsIn K mainGlobals "LETTERS" = some (some (.str "abcdefghijklmnopqrstuvwxyz" t)))
    (c_MOST_LETTERS : ∃ t, PySem.W.nsIn K mainGlobals "MOST_LETTERS" = some (some (.int 8 t)))
    (c_MOST_PLACES : ∃ t, PySem.W.nsIn K mainGlobals "MOST_PLACES" = some (some (.int 12 t)))
    (c_TIED : ∃ t, PySem.W.nsIn K mainGlobals "TIED" = some (some (.str "tied" t)))
    (a1 : PySem.W.nsIn K mainGlobals "is_name" = some (some (.ref f1))) (l1 : K.lookup f1 = some ⟨oc1, od1, .func (PySem.W.fnOf "is_name" "is_name" (defArgs s_is_name) (defBody s_is_name) (defScope s_is_name) .none kV1 dc1 pm1 an1 cd1 ct1), sl1⟩) (c1 : PySem.W.codeIn K cd1 "is_name" = true) (k1 : PySem.W.keepIn K (.ref f1) = true)
    (a2 : PySem.W.nsIn K mainGlobals "from_least" = some (some (.ref f2))) (l2 : K.lookup f2 = some ⟨oc2, od2, .func (PySem.W.fnOf "from_least" "from_least" (defArgs s_from_least) (defBody s_from_least) (defScope s_from_least) .none kV2 dc2 pm2 an2 cd2 ct2), sl2⟩) (c2 : PySem.W.codeIn K cd2 "from_least" = true) (k2 : PySem.W.keepIn K (.ref f2) = true)
    (a3 : PySem.W.nsIn K mainGlobals "behind" = some (some (.ref f3))) (l3 : K.lookup f3 = some ⟨oc3, od3, .func (PySem.W.fnOf "behind" "behind" (defArgs s_behind) (defBody s_behind) (defScope s_behind) .none kV3 dc3 pm3 an3 cd3 ct3), sl3⟩) (c3 : PySem.W.codeIn K cd3 "behind" = true) (k3 : PySem.W.keepIn K (.ref f3) = true)
    (a4 : PySem.W.nsIn K mainGlobals "face_from" = some (some (.ref f4))) (l4 : K.lookup f4 = some ⟨oc4, od4, .func (PySem.W.fnOf "face_from" "face_from" (defArgs s_face_from) (defBody s_face_from) (defScope s_face_from) .none kV4 dc4 pm4 an4 cd4 ct4), sl4⟩) (c4 : PySem.W.codeIn K cd4 "face_from" = true) (k4 : PySem.W.keepIn K (.ref f4) = true)
    (a5 : PySem.W.nsIn K mainGlobals "faces_in" = some (some (.ref f5))) (l5 : K.lookup f5 = some ⟨oc5, od5, .func (PySem.W.fnOf "faces_in" "faces_in" (defArgs s_faces_in) (defBody s_faces_in) (defScope s_faces_in) .none kV5 dc5 pm5 an5 cd5 ct5), sl5⟩) (c5 : PySem.W.codeIn K cd5 "faces_in" = true) (k5 : PySem.W.keepIn K (.ref f5) = true)
    (a6 : PySem.W.nsIn K mainGlobals "come_to" = some (some (.ref f6))) (l6 : K.lookup f6 = some ⟨oc6, od6, .func (PySem.W.fnOf "come_to" "come_to" (defArgs s_come_to) (defBody s_come_to) (defScope s_come_to) .none kV6 dc6 pm6 an6 cd6 ct6), sl6⟩) (c6 : PySem.W.codeIn K cd6 "come_to" = true) (k6 : PySem.W.keepIn K (.ref f6) = true)
    (a7 : PySem.W.nsIn K mainGlobals "pieces_in" = some (some (.ref f7))) (l7 : K.lookup f7 = some ⟨oc7, od7, .func (PySem.W.fnOf "pieces_in" "pieces_in" (defArgs s_pieces_in) (defBody s_pieces_in) (defScope s_pieces_in) .none kV7 dc7 pm7 an7 cd7 ct7), sl7⟩) (c7 : PySem.W.codeIn K cd7 "pieces_in" = true) (k7 : PySem.W.keepIn K (.ref f7) = true)
    (a8 : PySem.W.nsIn K mainGlobals "want_names" = some (some (.ref f8))) (l8 : K.lookup f8 = some ⟨oc8, od8, .func (PySem.W.fnOf "want_names" "want_names" (defArgs s_want_names) (defBody s_want_names) (defScope s_want_names) .none kV8 dc8 pm8 an8 cd8 ct8), sl8⟩) (c8 : PySem.W.codeIn K cd8 "want_names" = true) (k8 : PySem.W.keepIn K (.ref f8) = true)
    (a9 : PySem.W.nsIn K mainGlobals "want_unlike" = some (some (.ref f9))) (l9 : K.lookup f9 = some ⟨oc9, od9, .func (PySem.W.fnOf "want_unlike" "want_unlike" (defArgs s_want_unlike) (defBody s_want_unlike) (defScope s_want_unlike) .none kV9 dc9 pm9 an9 cd9 ct9), sl9⟩) (c9 : PySem.W.codeIn K cd9 "want_unlike" = true) (k9 : PySem.W.keepIn K (.ref f9) = true)
    (a10 : PySem.W.nsIn K mainGlobals "want_back" = some (some (.ref f10))) (l10 : K.lookup f10 = some ⟨oc10, od10, .func (PySem.W.fnOf "want_back" "want_back" (defArgs s_want_back) (defBody s_want_back) (defScope s_want_back) .none kV10 dc10 pm10 an10 cd10 ct10), sl10⟩) (c10 : PySem.W.codeIn K cd10 "want_back" = true) (k10 : PySem.W.keepIn K (.ref f10) = true)
    (a11 : PySem.W.nsIn K mainGlobals "want_flat" = some (some (.ref f11))) (l11 : K.lookup f11 = some ⟨oc11, od11, .func (PySem.W.fnOf "want_flat" "want_flat" (defArgs s_want_flat) (defBody s_want_flat) (defScope s_want_flat) .none kV11 dc11 pm11 an11 cd11 ct11), sl11⟩) (c11 : PySem.W.codeIn K cd11 "want_flat" = true) (k11 : PySem.W.keepIn K (.ref f11) = true)
    (a12 : PySem.W.nsIn K mainGlobals "rounds_of" = some (some (.ref f12))) (l12 : K.lookup f12 = some ⟨oc12, od12, .func (PySem.W.fnOf "rounds_of" "rounds_of" (defArgs s_rounds_of) (defBody s_rounds_of) (defScope s_rounds_of) .none kV12 dc12 pm12 an12 cd12 ct12), sl12⟩) (c12 : PySem.W.codeIn K cd12 "rounds_of" = true) (k12 : PySem.W.keepIn K (.ref f12) = true)
    (a13 : PySem.W.nsIn K mainGlobals "pieces" = some (some (.ref f13))) (l13 : K.lookup f13 = some ⟨oc13, od13, .func (PySem.W.fnOf "pieces" "pieces" (defArgs s_pieces) (defBody s_pieces) (defScope s_pieces) .none kV13 dc13 pm13 an13 cd13 ct13), sl13⟩) (c13 : PySem.W.codeIn K cd13 "pieces" = true) (k13 : PySem.W.keepIn K (.ref f13) = true)
    (a14 : PySem.W.nsIn K mainGlobals "tied_with" = some (some (.ref f14))) (l14 : K.lookup f14 = some ⟨oc14, od14, .func (PySem.W.fnOf "tied_with" "tied_with" (defArgs s_tied_with) (defBody s_tied_with) (defScope s_tied_with) .none kV14 dc14 pm14 an14 cd14 ct14), sl14⟩) (c14 : PySem.W.codeIn K cd14 "tied_with" = true) (k14 : PySem.W.keepIn K (.ref f14) = true)
    (a15 : PySem.W.nsIn K mainGlobals "free_ways" = some (some (.ref f15))) (l15 : K.lookup f15 = some ⟨oc15, od15, .func (PySem.W.fnOf "free_ways" "free_ways" (defArgs s_free_ways) (defBody s_free_ways) (defScope s_free_ways) .none kV15 dc15 pm15 an15 cd15 ct15), sl15⟩) (c15 : PySem.W.codeIn K cd15 "free_ways" = true) (k15 : PySem.W.keepIn K (.ref f15) = true)
    (a16 : PySem.W.nsIn K mainGlobals "tightest" = some (some (.ref f16))) (l16 : K.lookup f16 = some ⟨oc16, od16, .func (PySem.W.fnOf "tightest" "tightest" (defArgs s_tightest) (defBody s_tightest) (defScope s_tightest) .none kV16 dc16 pm16 an16 cd16 ct16), sl16⟩) (c16 : PySem.W.codeIn K cd16 "tightest" = true) (k16 : PySem.W.keepIn K (.ref f16) = true)
    (a17 : PySem.W.nsIn K mainGlobals "searched" = some (some (.ref f17))) (l17 : K.lookup f17 = some ⟨oc17, od17, .func (PySem.W.fnOf "searched" "searched" (defArgs s_searched) (defBody s_searched) (defScope s_searched) .none kV17 dc17 pm17 an17 cd17 ct17), sl17⟩) (c17 : PySem.W.codeIn K cd17 "searched" = true) (k17 : PySem.W.keepIn K (.ref f17) = true)
    (a18 : PySem.W.nsIn K mainGlobals "want_lists" = some (some (.ref f18))) (l18 : K.lookup f18 = some ⟨oc18, od18, .func (PySem.W.fnOf "want_lists" "want_lists" (defArgs s_want_lists) (defBody s_want_lists) (defScope s_want_lists) .none kV18 dc18 pm18 an18 cd18 ct18), sl18⟩) (c18 : PySem.W.codeIn K cd18 "want_lists" = true) (k18 : PySem.W.keepIn K (.ref f18) = true)
    (a19 : PySem.W.nsIn K mainGlobals "from_lists" = some (some (.ref f19))) (l19 : K.lookup f19 = some ⟨oc19, od19, .func (PySem.W.fnOf "from_lists" "from_lists" (defArgs s_from_lists) (defBody s_from_lists) (defScope s_from_lists) .none kV19 dc19 pm19 an19 cd19 ct19), sl19⟩) (c19 : PySem.W.codeIn K cd19 "from_lists" = true) (k19 : PySem.W.keepIn K (.ref f19) = true)
    (a20 : PySem.W.nsIn K mainGlobals "is_read_within" = some (some (.ref f20))) (l20 : K.lookup f20 = some ⟨oc20, od20, .func (PySem.W.fnOf "is_read_within" "is_read_within" (defArgs s_is_read_within) (defBody s_is_read_within) (defScope s_is_read_within) .none kV20 dc20 pm20 an20 cd20 ct20), sl20⟩) (c20 : PySem.W.codeIn K cd20 "is_read_within" = true) (k20 : PySem.W.keepIn K (.ref f20) = true)
    (a21 : PySem.W.nsIn K mainGlobals "is_read" = some (some (.ref f21))) (l21 : K.lookup f21 = some ⟨oc21, od21, .func (PySem.W.fnOf "is_read" "is_read" (defArgs s_is_read) (defBody s_is_read) (defScope s_is_read) .none kV21 dc21 pm21 an21 cd21 ct21), sl21⟩) (c21 : PySem.W.codeIn K cd21 "is_read" = true) (k21 : PySem.W.keepIn K (.ref f21) = true)
    (a22 : PySem.W.nsIn K mainGlobals "_law_pot" = some (some (.ref f22))) (l22 : K.lookup f22 = some ⟨oc22, od22, .func (PySem.W.fnOf "_law_pot" "_law_pot" (defArgs s_law_pot) (defBody s_law_pot) (defScope s_law_pot) .none kV22 dc22 pm22 an22 cd22 ct22), sl22⟩) (c22 : PySem.W.codeIn K cd22 "_law_pot" = true) (k22 : PySem.W.keepIn K (.ref f22) = true)
    (a23 : PySem.W.nsIn K mainGlobals "_law_take" = some (some (.ref f23))) (l23 : K.lookup f23 = some ⟨oc23, od23, .func (PySem.W.fnOf "_law_take" "_law_take" (defArgs s_law_take) (defBody s_law_take) (defScope s_law_take) .none kV23 dc23 pm23 an23 cd23 ct23), sl23⟩) (c23 : PySem.W.codeIn K cd23 "_law_take" = true) (k23 : PySem.W.keepIn K (.ref f23) = true)
    (a24 : PySem.W.nsIn K mainGlobals "_law_names" = some (some (.ref f24))) (l24 : K.lookup f24 = some ⟨oc24, od24, .func (PySem.W.fnOf "_law_names" "_law_names" (defArgs s_law_names) (defBody s_law_names) (defScope s_law_names) .none kV24 dc24 pm24 an24 cd24 ct24), sl24⟩) (c24 : PySem.W.codeIn K cd24 "_law_names" = true) (k24 : PySem.W.keepIn K (.ref f24) = true)
    (a25 : PySem.W.nsIn K mainGlobals "_law_behind" = some (some (.ref f25))) (l25 : K.lookup f25 = some ⟨oc25, od25, .func (PySem.W.fnOf "_law_behind" "_law_behind" (defArgs s_law_behind) (defBody s_law_behind) (defScope s_law_behind) .none kV25 dc25 pm25 an25 cd25 ct25), sl25⟩) (c25 : PySem.W.codeIn K cd25 "_law_behind" = true) (k25 : PySem.W.keepIn K (.ref f25) = true)
    (a26 : PySem.W.nsIn K mainGlobals "_law_put" = some (some (.ref f26))) (l26 : K.lookup f26 = some ⟨oc26, od26, .func (PySem.W.fnOf "_law_put" "_law_put" (defArgs s_law_put) (defBody s_law_put) (defScope s_law_put) .none kV26 dc26 pm26 an26 cd26 ct26), sl26⟩) (c26 : PySem.W.codeIn K cd26 "_law_put" = true) (k26 : PySem.W.keepIn K (.ref f26) = true)
    (a27 : PySem.W.nsIn K mainGlobals "_law_face" = some (some (.ref f27))) (l27 : K.lookup f27 = some ⟨oc27, od27, .func (PySem.W.fnOf "_law_face" "_law_face" (defArgs s_law_face) (defBody s_law_face) (defScope s_law_face) .none kV27 dc27 pm27 an27 cd27 ct27), sl27⟩) (c27 : PySem.W.codeIn K cd27 "_law_face" = true) (k27 : PySem.W.keepIn K (.ref f27) = true)
    (a28 : PySem.W.nsIn K mainGlobals "_law_tie" = some (some (.ref f28))) (l28 : K.lookup f28 = some ⟨oc28, od28, .func (PySem.W.fnOf "_law_tie" "_law_tie" (defArgs s_law_tie) (defBody s_law_tie) (defScope s_law_tie) .none kV28 dc28 pm28 an28 cd28 ct28), sl28⟩) (c28 : PySem.W.codeIn K cd28 "_law_tie" = true) (k28 : PySem.W.keepIn K (.ref f28) = true)
    (a29 : PySem.W.nsIn K mainGlobals "_law_more" = some (some (.ref f29))) (l29 : K.lookup f29 = some ⟨oc29, od29, .func (PySem.W.fnOf "_law_more" "_law_more" (defArgs s_law_more) (defBody s_law_more) (defScope s_law_more) .none kV29 dc29 pm29 an29 cd29 ct29), sl29⟩) (c29 : PySem.W.codeIn K cd29 "_law_more" = true) (k29 : PySem.W.keepIn K (.ref f29) = true)
    (a30 : PySem.W.nsIn K mainGlobals "_law_rounds" = some (some (.ref f30))) (l30 : K.lookup f30 = some ⟨oc30, od30, .func (PySem.W.fnOf "_law_rounds" "_law_rounds" (defArgs s_law_rounds) (defBody s_law_rounds) (defScope s_law_rounds) .none kV30 dc30 pm30 an30 cd30 ct30), sl30⟩) (c30 : PySem.W.codeIn K cd30 "_law_rounds" = true) (k30 : PySem.W.keepIn K (.ref f30) = true)
    (a31 : PySem.W.nsIn K mainGlobals "_law_web" = some (some (.ref f31))) (l31 : K.lookup f31 = some ⟨oc31, od31, .func (PySem.W.fnOf "_law_web" "_law_web" (defArgs s_law_web) (defBody s_law_web) (defScope s_law_web) .none kV31 dc31 pm31 an31 cd31 ct31), sl31⟩) (c31 : PySem.W.codeIn K cd31 "_law_web" = true) (k31 : PySem.W.keepIn K (.ref f31) = true)
    (a32 : PySem.W.nsIn K mainGlobals "_law_lists" = some (some (.ref f32))) (l32 : K.lookup f32 = some ⟨oc32, od32, .func (PySem.W.fnOf "_law_lists" "_law_lists" (defArgs s_law_lists) (defBody s_law_lists) (defScope s_law_lists) .none kV32 dc32 pm32 an32 cd32 ct32), sl32⟩) (c32 : PySem.W.codeIn K cd32 "_law_lists" = true) (k32 : PySem.W.keepIn K (.ref f32) = true)
    (a33 : PySem.W.nsIn K mainGlobals "_law_tied" = some (some (.ref f33))) (l33 : K.lookup f33 = some ⟨oc33, od33, .func (PySem.W.fnOf "_law_tied" "_law_tied" (defArgs s_law_tied) (defBody s_law_tied) (defScope s_law_tied) .none kV33 dc33 pm33 an33 cd33 ct33), sl33⟩) (c33 : PySem.W.codeIn K cd33 "_law_tied" = true) (k33 : PySem.W.keepIn K (.ref f33) = true)
    (a34 : PySem.W.nsIn K mainGlobals "_law_choice" = some (some (.ref f34))) (l34 : K.lookup f34 = some ⟨oc34, od34, .func (PySem.W.fnOf "_law_choice" "_law_choice" (defArgs s_law_choice) (defBody s_law_choice) (defScope s_law_choice) .none kV34 dc34 pm34 an34 cd34 ct34), sl34⟩) (c34 : PySem.W.codeIn K cd34 "_law_choice" = true) (k34 : PySem.W.keepIn K (.ref f34) = true)
    (a35 : PySem.W.nsIn K mainGlobals "_law_is_choice" = some (some (.ref f35))) (l35 : K.lookup f35 = some ⟨oc35, od35, .func (PySem.W.fnOf "_law_is_choice" "_law_is_choice" (defArgs s_law_is_choice) (defBody s_law_is_choice) (defScope s_law_is_choice) .none kV35 dc35 pm35 an35 cd35 ct35), sl35⟩) (c35 : PySem.W.codeIn K cd35 "_law_is_choice" = true) (k35 : PySem.W.keepIn K (.ref f35) = true)
    (a36 : PySem.W.nsIn K mainGlobals "_law_reads" = some (some (.ref f36))) (l36 : K.lookup f36 = some ⟨oc36, od36, .func (PySem.W.fnOf "_law_reads" "_law_reads" (defArgs s_law_reads) (defBody s_law_reads) (defScope s_law_reads) .none kV36 dc36 pm36 an36 cd36 ct36), sl36⟩) (c36 : PySem.W.codeIn K cd36 "_law_reads" = true) (k36 : PySem.W.keepIn K (.ref f36) = true)
    (a37 : PySem.W.nsIn K mainGlobals "_law_copied" = some (some (.ref f37))) (l37 : K.lookup f37 = some ⟨oc37, od37, .func (PySem.W.fnOf "_law_copied" "_law_copied" (defArgs s_law_copied) (defBody s_law_copied) (defScope s_law_copied) .none kV37 dc37 pm37 an37 cd37 ct37), sl37⟩) (c37 : PySem.W.codeIn K cd37 "_law_copied" = true) (k37 : PySem.W.keepIn K (.ref f37) = true)
    (a38 : PySem.W.nsIn K mainGlobals "_law_emptied" = some (some (.ref f38))) (l38 : K.lookup f38 = some ⟨oc38, od38, .func (PySem.W.fnOf "_law_emptied" "_law_emptied" (defArgs s_law_emptied) (defBody s_law_emptied) (defScope s_law_emptied) .none kV38 dc38 pm38 an38 cd38 ct38), sl38⟩) (c38 : PySem.W.codeIn K cd38 "_law_emptied" = true) (k38 : PySem.W.keepIn K (.ref f38) = true)
    (a39 : PySem.W.nsIn K mainGlobals "_law_are_right" = some (some (.ref f39))) (l39 : K.lookup f39 = some ⟨oc39, od39, .func (PySem.W.fnOf "_law_are_right" "_law_are_right" (defArgs s_law_are_right) (defBody s_law_are_right) (defScope s_law_are_right) .none kV39 dc39 pm39 an39 cd39 ct39), sl39⟩) (c39 : PySem.W.codeIn K cd39 "_law_are_right" = true) (k39 : PySem.W.keepIn K (.ref f39) = true)
    (a40 : PySem.W.nsIn K mainGlobals "law" = some (some (.ref f40))) (l40 : K.lookup f40 = some ⟨oc40, od40, .func (PySem.W.fnOf "law" "law" (defArgs s_law) (defBody s_law) (defScope s_law) .none kV40 dc40 pm40 an40 cd40 ct40), sl40⟩) (c40 : PySem.W.codeIn K cd40 "law" = true) (k40 : PySem.W.keepIn K (.ref f40) = true)
    (g_e0 : PySem.W.nsIn K mainGlobals "HueError" = some (some (.ref e0)))
    (g_e1 : PySem.W.nsIn K mainGlobals "NoName" = some (some (.ref e1)))
    (g_e2 : PySem.W.nsIn K mainGlobals "Twice" = some (some (.ref e2)))
    (g_e3 : PySem.W.nsIn K mainGlobals "OneWay" = some (some (.ref e3)))
    (g_e4 : PySem.W.nsIn K mainGlobals "NotFlat" = some (some (.ref e4)))
    (g_e5 : PySem.W.nsIn K mainGlobals "NoPlace" = some (some (.ref e5)))
    (x_e5 : PySem.W.excIn K e5 veTail "ValueError.__new__" = true)
    (k_e5 : PySem.W.keepIn K (.ref e5) = true)
    (b_e5 : PySem.W.subIn K (.ref e5) (.type "BaseException") = some true)
    (t_e5 : PySem.W.typeIn K (.ref e5) = some (.type "type"))
    (s_e5 : PySem.W.subIn K (.ref e5) (.ref e5) = some true)
    (hg_e5 : PySem.W.findIn K (.ref e5) "__getattribute__" = some (some (.builtin "BaseException.__getattribute__")))
    (hk_e5 : PySem.W.findIn K (.ref e5) "__getattr__" = some none)
    (hd_e5 : PySem.W.hasDictIn K e5 = true)
    (ha_e5 : PySem.W.findIn K (.ref e5) "__class__" = some (some (.builtin "object.__class__")))
    (hn_e5 : PySem.W.specialIn K (.builtin "object.__class__") "__get__" = some (some (.builtin "getset_descriptor.__get__")))
    (ht_e5 : PySem.W.takesIn K (.builtin "object.__class__") = some true)
    (hm_e5 : PySem.W.mroIn K e5 (.type "object") = some true)
    (g_e6 : PySem.W.nsIn K mainGlobals "TooMany" = some (some (.ref e6)))
    (x_e6 : PySem.W.excIn K e6 veTail "ValueError.__new__" = true)
    (k_e6 : PySem.W.keepIn K (.ref e6) = true)
    (b_e6 : PySem.W.subIn K (.ref e6) (.type "BaseException") = some true)
    (t_e6 : PySem.W.typeIn K (.ref e6) = some (.type "type"))
    (s_e6 : PySem.W.subIn K (.ref e6) (.ref e6) = some true)
    (hg_e6 : PySem.W.findIn K (.ref e6) "__getattribute__" = some (some (.builtin "BaseException.__getattribute__")))
    (hk_e6 : PySem.W.findIn K (.ref e6) "__getattr__" = some none)
    (hd_e6 : PySem.W.hasDictIn K e6 = true)
    (ha_e6 : PySem.W.findIn K (.ref e6) "__class__" = some (some (.builtin "object.__class__")))
    (hn_e6 : PySem.W.specialIn K (.builtin "object.__class__") "__get__" = some (some (.builtin "getset_descriptor.__get__")))
    (ht_e6 : PySem.W.takesIn K (.builtin "object.__class__") = some true)
    (hm_e6 : PySem.W.mroIn K e6 (.type "object") = some true)
    (aC : PySem.W.nsIn K mainGlobals "Web" = some (some (.ref C))) (pg : PySem.W.plainGet K C Str.empty = true) (hd : PySem.W.hasDictIn K C = true) (po : PySem.W.plainOver K C = true) (sa : PySem.W.findIn K (.ref C) "__setattr__" = some (some (.builtin "object.__setattr__"))) (mk : PySem.W.makesIn K C = true) (kc : PySem.W.keepIn K (.ref C) = true) (nR : PySem.W.findIn K (.ref C) "rounds" = some none)
    (a41 : PySem.W.findIn K (.ref C) "__init__" = some (some (.ref f41))) (i41 : PySem.W.isFn K (.ref f41) = true) (l41 : K.lookup f41 = some ⟨oc41, od41, .func (PySem.W.fnOf "__init__" "Web.__init__" (defArgs s_Web_init) (defBody s_Web_init) (defScope s_Web_init) .none kV41 dc41 pm41 an41 cd41 ct41), sl41⟩) (c41 : PySem.W.codeIn K cd41 "Web.__init__" = true) (k41 : PySem.W.keepIn K (.ref f41) = true)
    (a42 : PySem.W.findIn K (.ref C) "places" = some (some (.ref f42))) (i42 : PySem.W.isFn K (.ref f42) = true) (l42 : K.lookup f42 = some ⟨oc42, od42, .func (PySem.W.fnOf "places" "Web.places" (defArgs s_Web_places) (defBody s_Web_places) (defScope s_Web_places) .none kV42 dc42 pm42 an42 cd42 ct42), sl42⟩) (c42 : PySem.W.codeIn K cd42 "Web.places" = true) (k42 : PySem.W.keepIn K (.ref f42) = true)
    (a43 : PySem.W.findIn K (.ref C) "round_of" = some (some (.ref f43))) (i43 : PySem.W.isFn K (.ref f43) = true) (l43 : K.lookup f43 = some ⟨oc43, od43, .func (PySem.W.fnOf "round_of" "Web.round_of" (defArgs s_Web_round_of) (defBody s_Web_round_of) (defScope s_Web_round_of) .none kV43 dc43 pm43 an43 cd43 ct43), sl43⟩) (c43 : PySem.W.codeIn K cd43 "Web.round_of" = true) (k43 : PySem.W.keepIn K (.ref f43) = true)
    (a44 : PySem.W.findIn K (.ref C) "ties" = some (some (.ref f44))) (i44 : PySem.W.isFn K (.ref f44) = true) (l44 : K.lookup f44 = some ⟨oc44, od44, .func (PySem.W.fnOf "ties" "Web.ties" (defArgs s_Web_ties) (defBody s_Web_ties) (defScope s_Web_ties) .none kV44 dc44 pm44 an44 cd44 ct44), sl44⟩) (c44 : PySem.W.codeIn K cd44 "Web.ties" = true) (k44 : PySem.W.keepIn K (.ref f44) = true)
    (a45 : PySem.W.findIn K (.ref C) "is_tied" = some (some (.ref f45))) (i45 : PySem.W.isFn K (.ref f45) = true) (l45 : K.lookup f45 = some ⟨oc45, od45, .func (PySem.W.fnOf "is_tied" "Web.is_tied" (defArgs s_Web_is_tied) (defBody s_Web_is_tied) (defScope s_Web_is_tied) .none kV45 dc45 pm45 an45 cd45 ct45), sl45⟩) (c45 : PySem.W.codeIn K cd45 "Web.is_tied" = true) (k45 : PySem.W.keepIn K (.ref f45) = true)
    : ∃ fd : FuncData, (∀ (s : Shared) (v : Value), BindsTo s fd ⟨[v], []⟩ [("_law_script", v)]) ∧ ∀ base : Heap, K.In base → base.Ns mainGlobals mg → FnOk l.prog w K mg base CX0 34 fa fd ["_law_script"] (spLaw K) := by
  have e := hfa.symm.trans (PySem.W.mg_of X G a40)
  cases e
  have F1 := fun_mk (st := s_is_name) l1 c1 k1
  have b1 := F1.binds (ps := ["thing"]) fun _ _ _ _ _ _ us hl => match us, hl with | [_], _ => rfl
  have F2 := fun_mk (st := s_from_least) l2 c2 k2
  have b2 := F2.binds (ps := ["around"]) fun _ _ _ _ _ _ us hl => match us, hl with | [_], _ => rfl
  have F3 := fun_mk (st := s_behind) l3 c3 k3
  have b3 := F3.binds (ps := ["around", "place"]) fun _ _ _ _ _ _ us hl => match us, hl with | [_, _], _ => rfl
  have F4 := fun_mk (st := s_face_from) l4 c4 k4
  have b4 := F4.binds (ps := ["rounds", "step"]) fun _ _ _ _ _ _ us hl => match us, hl with | [_, _], _ => rfl
  have F5 := fun_mk (st := s_faces_in) l5 c5 k5
  have b5 := F5.binds (ps := ["rounds"]) fun _ _ _ _ _ _ us hl => match us, hl with | [_], _ => rfl
  have F6 := fun_mk (st := s_come_to) l6 c6 k6
  have b6 := F6.binds (ps := ["rounds", "place"]) fun _ _ _ _ _ _ us hl => match us, hl with | [_, _], _ => rfl
  have F7 := fun_mk (st := s_pieces_in) l7 c7 k7
  have b7 := F7.binds (ps := ["rounds"]) fun _ _ _ _ _ _ us hl => match us, hl with | [_], _ => rfl
  have F8 := fun_mk (st := s_want_names) l8 c8 k8
  have b8 := F8.binds (ps := ["rows"]) fun _ _ _ _ _ _ us hl => match us, hl with | [_], _ => rfl
  have F9 := fun_mk (st := s_want_unlike) l9 c9 k9
  have b9 := F9.binds (ps := ["rows"]) fun _ _ _ _ _ _ us hl => match us, hl with | [_], _ => rfl
  have F10 := fun_mk (st := s_want_back) l10 c10 k10
  have b10 := F10.binds (ps := ["rows", "rounds"]) fun _ _ _ _ _ _ us hl => match us, hl with | [_, _], _ => rfl
  have F11 := fun_mk (st := s_want_flat) l11 c11 k11
  have b11 := F11.binds (ps := ["rounds"]) fun _ _ _ _ _ _ us hl => match us, hl with | [_], _ => rfl
  have F12 := fun_mk (st := s_rounds_of) l12 c12 k12
  have b12 := F12.binds (ps := ["web"]) fun _ _ _ _ _ _ us hl => match us, hl with | [_], _ => rfl
  have F13 := fun_mk (st := s_pieces) l13 c13 k13
  have b13 := F13.binds (ps := ["web"]) fun _ _ _ _ _ _ us hl => match us, hl with | [_], _ => rfl
  have F14 := fun_mk (st := s_tied_with) l14 c14 k14
  have b14 := F14.binds (ps := ["web", "place", "hue", "chosen"]) fun _ _ _ _ _ _ us hl => match us, hl with | [_, _, _, _], _ => rfl
  have F15 := fun_mk (st := s_free_ways) l15 c15 k15
  have b15 := F15.binds (ps := ["web", "lists", "chosen", "place"]) fun _ _ _ _ _ _ us hl => match us, hl with | [_, _, _, _], _ => rfl
  have F16 := fun_mk (st := s_tightest) l16 c16 k16
  have b16 := F16.binds (ps := ["web", "lists", "chosen", "left"]) fun _ _ _ _ _ _ us hl => match us, hl with | [_, _, _, _], _ => rfl
  have F17 := fun_mk (st := s_searched) l17 c17 k17
  have b17 := F17.binds (ps := ["web", "lists", "chosen", "left"]) fun _ _ _ _ _ _ us hl => match us, hl with | [_, _, _, _], _ => rfl
  have F18 := fun_mk (st := s_want_lists) l18 c18 k18
  have b18 := F18.binds (ps := ["web", "lists"]) fun _ _ _ _ _ _ us hl => match us, hl with | [_, _], _ => rfl
  have F19 := fun_mk (st := s_from_lists) l19 c19 k19
  have b19 := F19.binds (ps := ["web", "lists"]) fun _ _ _ _ _ _ us hl => match us, hl with | [_, _], _ => rfl
  have F20 := fun_mk (st := s_is_read_within) l20 c20 k20
  have b20 := F20.binds (ps := ["web", "lists", "choice", "chosen"]) fun _ _ _ _ _ _ us hl => match us, hl with | [_, _, _, _], _ => rfl
  have F21 := fun_mk (st := s_is_read) l21 c21 k21
  have b21 := F21.binds (ps := ["web", "lists", "choice"]) fun _ _ _ _ _ _ us hl => match us, hl with | [_, _, _], _ => rfl
  have F22 := fun_mk (st := s_law_pot) l22 c22 k22
  have b22 := F22.binds (ps := ["_law_script", "_law_k"]) fun _ _ _ _ _ _ us hl => match us, hl with | [_, _], _ => rfl
  have F23 := fun_mk (st := s_law_take) l23 c23 k23
  have b23 := F23.binds (ps := ["_law_pot_here", "_law_many"]) fun _ _ _ _ _ _ us hl => match us, hl with | [_, _], _ => rfl
  have F24 := fun_mk (st := s_law_names) l24 c24 k24
  have b24 := F24.binds (ps := ["_law_pot_here", "_law_many"]) fun _ _ _ _ _ _ us hl => match us, hl with | [_, _], _ => rfl
  have F25 := fun_mk (st := s_law_behind) l25 c25 k25
  have b25 := F25.binds (ps := ["_law_row", "_law_name"]) fun _ _ _ _ _ _ us hl => match us, hl with | [_, _], _ => rfl
  have F26 := fun_mk (st := s_law_put) l26 c26 k26
  have b26 := F26.binds (ps := ["_law_rounds_here", "_law_one", "_law_corner", "_law_other"]) fun _ _ _ _ _ _ us hl => match us, hl with | [_, _, _, _], _ => rfl
  have F27 := fun_mk (st := s_law_face) l27 c27 k27
  have b27 := F27.binds (ps := ["_law_rounds_here", "_law_corner", "_law_one"]) fun _ _ _ _ _ _ us hl => match us, hl with | [_, _, _], _ => rfl
  have F28 := fun_mk (st := s_law_tie) l28 c28 k28
  have b28 := F28.binds (ps := ["_law_pot_here", "_law_rounds_here"]) fun _ _ _ _ _ _ us hl => match us, hl with | [_, _], _ => rfl
  have F29 := fun_mk (st := s_law_more) l29 c29 k29
  have b29 := F29.binds (ps := ["_law_pot_here", "_law_rounds_here", "_law_name"]) fun _ _ _ _ _ _ us hl => match us, hl with | [_, _, _], _ => rfl
  have F30 := fun_mk (st := s_law_rounds) l30 c30 k30
  have b30 := F30.binds (ps := ["_law_pot_here", "_law_most"]) fun _ _ _ _ _ _ us hl => match us, hl with | [_, _], _ => rfl
  have F31 := fun_mk (st := s_law_web) l31 c31 k31
  have b31 := F31.binds (ps := ["_law_pot_here", "_law_rounds_here"]) fun _ _ _ _ _ _ us hl => match us, hl with | [_, _], _ => rfl
  have F32 := fun_mk (st := s_law_lists) l32 c32 k32
  have b32 := F32.binds (ps := ["_law_pot_here", "_law_rounds_here"]) fun _ _ _ _ _ _ us hl => match us, hl with | [_, _], _ => rfl
  have F33 := fun_mk (st := s_law_tied) l33 c33 k33
  have b33 := F33.binds (ps := ["_law_rounds_here", "_law_name", "_law_hue", "_law_chosen"]) fun _ _ _ _ _ _ us hl => match us, hl with | [_, _, _, _], _ => rfl
  have F34 := fun_mk (st := s_law_choice) l34 c34 k34
  have b34 := F34.binds (ps := ["_law_rounds_here", "_law_lists_here", "_law_left", "_law_chosen"]) fun _ _ _ _ _ _ us hl => match us, hl with | [_, _, _, _], _ => rfl
  have F35 := fun_mk (st := s_law_is_choice) l35 c35 k35
  have b35 := F35.binds (ps := ["_law_thing"]) fun _ _ _ _ _ _ us hl => match us, hl with | [_], _ => rfl
  have F36 := fun_mk (st := s_law_reads) l36 c36 k36
  have b36 := F36.binds (ps := ["_law_rounds_here", "_law_lists_here", "_law_choice_here", "_law_chosen"]) fun _ _ _ _ _ _ us hl => match us, hl with | [_, _, _, _], _ => rfl
  have F37 := fun_mk (st := s_law_copied) l37 c37 k37
  have b37 := F37.binds (ps := ["_law_choice_here"]) fun _ _ _ _ _ _ us hl => match us, hl with | [_], _ => rfl
  have F38 := fun_mk (st := s_law_emptied) l38 c38 k38
  have b38 := F38.binds (ps := ["_law_choice_here"]) fun _ _ _ _ _ _ us hl => match us, hl with | [_], _ => rfl
  have F39 := fun_mk (st := s_law_are_right) l39 c39 k39
  have b39 := F39.binds (ps := ["_law_rounds_here", "_law_lists_here", "_law_hues"]) fun _ _ _ _ _ _ us hl => match us, hl with | [_, _, _], _ => rfl
  have F40 := fun_mk (st := s_law) l40 c40 k40
  have b40 := F40.binds (ps := ["_law_script"]) fun _ _ _ _ _ _ us hl => match us, hl with | [_], _ => rfl
  have F41 := fun_mk (st := s_Web_init) l41 c41 k41
  have b41 := F41.binds (ps := ["self", "rows"]) fun _ _ _ _ _ _ us hl => match us, hl with | [_, _], _ => rfl
  have F42 := fun_mk (st := s_Web_places) l42 c42 k42
  have b42 := F42.binds (ps := ["self"]) fun _ _ _ _ _ _ us hl => match us, hl with | [_], _ => rfl
  have F43 := fun_mk (st := s_Web_round_of) l43 c43 k43
  have b43 := F43.binds (ps := ["self", "place"]) fun _ _ _ _ _ _ us hl => match us, hl with | [_, _], _ => rfl
  have F44 := fun_mk (st := s_Web_ties) l44 c44 k44
  have b44 := F44.binds (ps := ["self"]) fun _ _ _ _ _ _ us hl => match us, hl with | [_], _ => rfl
  have F45 := fun_mk (st := s_Web_is_tied) l45 c45 k45
  have b45 := F45.binds (ps := ["self", "one", "other"]) fun _ _ _ _ _ _ us hl => match us, hl with | [_, _, _], _ => rfl
  have T : Txt K mg C (fun i => [e0, e1, e2, e3, e4, e5, e6].getD i 0) := ⟨PySem.W.mg_none_of X G z_abs,
    PySem.W.mg_none_of X G z_all,
    PySem.W.mg_none_of X G z_any,
    PySem.W.mg_none_of X G z_bool,
    PySem.W.mg_none_of X G z_dict,
    PySem.W.mg_none_of X G z_divmod,
    PySem.W.mg_none_of X G z_isinstance,
    PySem.W.mg_none_of X G z_len,
    PySem.W.mg_none_of X G z_list,
    PySem.W.mg_none_of X G z_max,
    PySem.W.mg_none_of X G z_min,
    PySem.W.mg_none_of X G z_range,
    PySem.W.mg_none_of X G z_set,
    PySem.W.mg_none_of X G z_sorted,
    PySem.W.mg_none_of X G z_str,
    PySem.W.mg_none_of X G z_sum,
    PySem.W.mg_none_of X G z_tuple,
    (c_LETTERS.elim fun t e => ⟨_, PySem.W.mg_of X G e, t, rfl⟩),
    (c_MOST_LETTERS.elim fun t e => ⟨_, PySem.W.mg_of X G e, t, rfl⟩),
    (c_MOST_PLACES.elim fun t e => ⟨_, PySem.W.mg_of X G e, t, rfl⟩),
    (c_TIED.elim fun t e => ⟨_, PySem.W.mg_of X G e, t, rfl⟩),
    ⟨_, _, F1, PySem.W.mg_of X G a1, b1⟩,
    ⟨_, _, F2, PySem.W.mg_of X G a2, b2⟩,
    ⟨_, _, F3, PySem.W.mg_of X G a3, b3⟩,
    ⟨_, _, F4, PySem.W.mg_of X G a4, b4⟩,
    ⟨_, _, F5, PySem.W.mg_of X G a5, b5⟩,
    ⟨_, _, F6, PySem.W.mg_of X G a6, b6⟩,
    ⟨_, _, F7, PySem.W.mg_of X G a7, b7⟩,
    ⟨_, _, F8, PySem.W.mg_of X G a8, b8⟩,
    ⟨_, _, F9, PySem.W.mg_of X G a9, b9⟩,
    ⟨_, _, F10, PySem.W.mg_of X G a10, b10⟩,
    ⟨_, _, F11, PySem.W.mg_of X G a11, b11⟩,
    ⟨_, _, F12, PySem.W.mg_of X G a12, b12⟩,
    ⟨_, _, F13, PySem.W.mg_of X G a13, b13⟩,
    ⟨_, _, F14, PySem.W.mg_of X G a14, b14⟩,
    ⟨_, _, F15, PySem.W.mg_of X G a15, b15⟩,
    ⟨_, _, F16, PySem.W.mg_of X G a16, b16⟩,
    ⟨_, _, F17, PySem.W.mg_of X G a17, b17⟩,
    ⟨_, _, F18, PySem.W.mg_of X G a18, b18⟩,
    ⟨_, _, F19, PySem.W.mg_of X G a19, b19⟩,
    ⟨_, _, F20, PySem.W.mg_of X G a20, b20⟩,
    ⟨_, _, F21, PySem.W.mg_of X G a21, b21⟩,
    ⟨_, _, F22, PySem.W.mg_of X G a22, b22⟩,
    ⟨_, _, F23, PySem.W.mg_of X G a23, b23⟩,
    ⟨_, _, F24, PySem.W.mg_of X G a24, b24⟩,
    ⟨_, _, F25, PySem.W.mg_of X G a25, b25⟩,
    ⟨_, _, F26, PySem.W.mg_of X G a26, b26⟩,
    ⟨_, _, F27, PySem.W.mg_of X G a27, b27⟩,
    ⟨_, _, F28, PySem.W.mg_of X G a28, b28⟩,
    ⟨_, _, F29, PySem.W.mg_of X G a29, b29⟩,
    ⟨_, _, F30, PySem.W.mg_of X G a30, b30⟩,
    ⟨_, _, F31, PySem.W.mg_of X G a31, b31⟩,
    ⟨_, _, F32, PySem.W.mg_of X G a32, b32⟩,
    ⟨_, _, F33, PySem.W.mg_of X G a33, b33⟩,
    ⟨_, _, F34, PySem.W.mg_of X G a34, b34⟩,
    ⟨_, _, F35, PySem.W.mg_of X G a35, b35⟩,
    ⟨_, _, F36, PySem.W.mg_of X G a36, b36⟩,
    ⟨_, _, F37, PySem.W.mg_of X G a37, b37⟩,
    ⟨_, _, F38, PySem.W.mg_of X G a38, b38⟩,
    ⟨_, _, F39, PySem.W.mg_of X G a39, b39⟩,
    ⟨_, _, F40, PySem.W.mg_of X G a40, b40⟩,
    PySem.W.mg_of X G g_e0,
    PySem.W.mg_of X G g_e1,
    PySem.W.mg_of X G g_e2,
    PySem.W.mg_of X G g_e3,
    PySem.W.mg_of X G g_e4,
    ⟨PySem.W.mg_of X G g_e5, x_e5, k_e5, b_e5, t_e5, (PySem.W.exm_ref b_e5 hd_e5 t_e5 s_e5), hg_e5, hk_e5, hd_e5, ha_e5, hn_e5, ht_e5, hm_e5⟩,
    ⟨PySem.W.mg_of X G g_e6, x_e6, k_e6, b_e6, t_e6, (PySem.W.exm_ref b_e6 hd_e6 t_e6 s_e6), hg_e6, hk_e6, hd_e6, ha_e6, hn_e6, ht_e6, hm_e6⟩,
    ⟨pg, hd, po, sa⟩,
    nR,
    PySem.W.mg_of X G aC,
    ⟨f41, _, F41, ⟨mk, a41, i41, kc⟩, b41⟩,
    ⟨f42, _, F42, ⟨a42, i42, k42⟩, b42⟩,
    ⟨f43, _, F43, ⟨a43, i43, k43⟩, b43⟩,
    ⟨f44, _, F44, ⟨a44, i44, k44⟩, b44⟩,
    ⟨f45, _, F45, ⟨a45, i45, k45⟩, b45⟩⟩
  exact ⟨_, fun s v => .of_eq rfl, fun base _ _ => ok_law_fn T F40⟩
theorem walk {l : PySem.W.OpenLaw} {q : Program} {loose : List Str} {XP : (Str → Option Value) → Heap → Prop} {YP : World → Heap → Prop} {d : DefRec} {K : Params → PySem.W.Frag} (hn : l.most = some 63) (hdf : d.params.defaults = [])
    (hY : ∀ (w : World) (h : Heap), YP w h → (K w.params).In h)
    (F : ∀ (w : World) (mg : Str → Option Value) (fa : Addr) (h : Heap), (K w.params).In h → h.Ns mainGlobals mg → mg d.name = some (.ref fa) →
      ∃ fd : FuncData, (∀ (s : Shared) (u : Value), BindsTo s fd ⟨[u], []⟩ [("_law_script", u)]) ∧ ∀ base : Heap, (K w.params).In base → base.Ns mainGlobals mg → FnOk l.prog w (K w.params) mg base CX0 34 fa fd ["_law_script"] (spLaw (K w.params))) :
    PySem.W.WalkO q loose XP YP l.row.toRowW d [] (fun f vs => PySem.call f vs) :=
  L2.walk_of (n := 63) (k := 34) (x := "_law_script") (CX := fun _ => CX0) (sp := fun w => spLaw (K w.params)) hn (by decide) hdf ⟨rfl, by decide, by decide⟩ hY F (fun _ _ a ns hl _ hS => ⟨a, ns, rfl, hS, hl, fun _ => rfl⟩) fun _ _ _ _ _ z => z
end Five
open PySem PySem.W PyProof.Rows in
set_option maxRecDepth 100000 in
set_option maxHeartbeats 0 in
theorem PySem.Challenge.cw_fivehues_k62_whole_hues_from_lists_holds : PySem.Challenge.rw_fivehues_k62_whole_hues_from_lists.Holds := by
  w_on; o_law; k_head; (case hw => w_witness2)
  k_fill
  refine Five.walk (l := PySem.Challenge.rw_fivehues_k62_whole_hues_from_lists) rfl rfl (fun w h Y => PySem.W.kIn_of Y) ?F
  case F =>
    intro w mg fa h KX G hmg
    refine' Five.all_mk KX G hmg ?z_abs ?z_all ?z_any ?z_bool ?z_dict ?z_divmod ?z_isinstance ?z_len ?z_list ?z_max ?z_min ?z_range ?z_set ?z_sorted ?z_str ?z_sum ?z_tuple ?c_LETTERS ?c_MOST_LETTERS ?c_MOST_PLACES ?c_TIED ?a1 ?l1 ?c1 ?k1 ?a2 ?l2 ?c2 ?k2 ?a3 ?l3 ?c3 ?k3 ?a4 ?l4 ?c4 ?k4 ?a5 ?l5 ?c5 ?k5 ?a6 ?l6 ?c6 ?k6 ?a7 ?l7 ?c7 ?k7 ?a8 ?l8 ?c8 ?k8 ?a9 ?l9 ?c9 ?k9 ?a10 ?l10 ?c10 ?k10 ?a11 ?l11 ?c11 ?k11 ?a12 ?l12 ?c12 ?k12 ?a13 ?l13 ?c13 ?k13 ?a14 ?l14 ?c14 ?k14 ?a15 ?l15 ?c15 ?k15 ?a16 ?l16 ?c16 ?k16 ?a17 ?l17 ?c17 ?k17 ?a18 ?l18 ?c18 ?k18 ?a19 ?l19 ?c19 ?k19 ?a20 ?l20 ?c20 ?k20 ?a21 ?l21 ?c21 ?k21 ?a22 ?l22 ?c22 ?k22 ?a23 ?l23 ?c23 ?k23 ?a24 ?l24 ?c24 ?k24 ?a25 ?l25 ?c25 ?k25 ?a26 ?l26 ?c26 ?k26 ?a27 ?l27 ?c27 ?k27 ?a28 ?l28 ?c28 ?k28 ?a29 ?l29 ?c29 ?k29 ?a30 ?l30 ?c30 ?k30 ?a31 ?l31 ?c31 ?k31 ?a32 ?l32 ?c32 ?k32 ?a33 ?l33 ?c33 ?k33 ?a34 ?l34 ?c34 ?k34 ?a35 ?l35 ?c35 ?k35 ?a36 ?l36 ?c36 ?k36 ?a37 ?l37 ?c37 ?k37 ?a38 ?l38 ?c38 ?k38 ?a39 ?l39 ?c39 ?k39 ?a40 ?l40 ?c40 ?k40 ?g_e0 ?g_e1 ?g_e2 ?g_e3 ?g_e4 ?g_e5 ?x_e5 ?k_e5 ?b_e5 ?t_e5 ?s_e5 ?hg_e5 ?hk_e5 ?hd_e5 ?ha_e5 ?hn_e5 ?ht_e5 ?hm_e5 ?g_e6 ?x_e6 ?k_e6 ?b_e6 ?t_e6 ?s_e6 ?hg_e6 ?hk_e6 ?hd_e6 ?ha_e6 ?hn_e6 ?ht_e6 ?hm_e6 ?aC ?pg ?hd ?po ?sa ?mk ?kc ?nR ?a41 ?i41 ?l41 ?c41 ?k41 ?a42 ?i42 ?l42 ?c42 ?k42 ?a43 ?i43 ?l43 ?c43 ?k43 ?a44 ?i44 ?l44 ?c44 ?k44 ?a45 ?i45 ?l45 ?c45 ?k45
    (case z_abs => k_is)
    (case z_all => k_is)
    (case z_any => k_is)
    (case z_bool => k_is)
    (case z_dict => k_is)
    (case z_divmod => k_is)
    (case z_isinstance => k_is)
    (case z_len => k_is)
    (case z_list => k_is)
    (case z_max => k_is)
    (case z_min => k_is)
    (case z_range => k_is)
    (case z_set => k_is)
    (case z_sorted => k_is)
    (case z_str => k_is)
    (case z_sum => k_is)
    (case z_tuple => k_is)
    (case c_LETTERS => exact ⟨_, by k_is⟩)
    (case c_MOST_LETTERS => exact ⟨_, by k_is⟩)
    (case c_MOST_PLACES => exact ⟨_, by k_is⟩)
    (case c_TIED => exact ⟨_, by k_is⟩)
    (case a1 => k_is)
    (case l1 => k_is)
    (case c1 => k_is)
    (case k1 => k_is)
    (case a2 => k_is)
    (case l2 => k_is)
    (case c2 => k_is)
    (case k2 => k_is)
    (case a3 => k_is)
    (case l3 => k_is)
    (case c3 => k_is)
    (case k3 => k_is)
    (case a4 => k_is)
    (case l4 => k_is)
    (case c4 => k_is)
    (case k4 => k_is)
    (case a5 => k_is)
    (case l5 => k_is)
    (case c5 => k_is)
    (case k5 => k_is)
    (case a6 => k_is)
    (case l6 => k_is)
    (case c6 => k_is)
    (case k6 => k_is)
    (case a7 => k_is)
    (case l7 => k_is)
    (case c7 => k_is)
    (case k7 => k_is)
    (case a8 => k_is)
    (case l8 => k_is)
    (case c8 => k_is)
    (case k8 => k_is)
    (case a9 => k_is)
    (case l9 => k_is)
    (case c9 => k_is)
    (case k9 => k_is)
    (case a10 => k_is)
    (case l10 => k_is)
    (case c10 => k_is)
    (case k10 => k_is)
    (case a11 => k_is)
    (case l11 => k_is)
    (case c11 => k_is)
    (case k11 => k_is)
    (case a12 => k_is)
    (case l12 => k_is)
    (case c12 => k_is)
    (case k12 => k_is)
    (case a13 => k_is)
    (case l13 => k_is)
    (case c13 => k_is)
    (case k13 => k_is)
    (case a14 => k_is)
    (case l14 => k_is)
    (case c14 => k_is)
    (case k14 => k_is)
    (case a15 => k_is)
    (case l15 => k_is)
    (case c15 => k_is)
    (case k15 => k_is)
    (case a16 => k_is)
    (case l16 => k_is)
    (case c16 => k_is)
    (case k16 => k_is)
    (case a17 => k_is)
    (case l17 => k_is)
    (case c17 => k_is)
    (case k17 => k_is)
    (case a18 => k_is)
    (case l18 => k_is)
    (case c18 => k_is)
    (case k18 => k_is)
    (case a19 => k_is)
    (case l19 => k_is)
    (case c19 => k_is)
    (case k19 => k_is)
    (case a20 => k_is)
    (case l20 => k_is)
    (case c20 => k_is)
    (case k20 => k_is)
    (case a21 => k_is)
    (case l21 => k_is)
    (case c21 => k_is)
    (case k21 => k_is)
    (case a22 => k_is)
    (case l22 => k_is)
    (case c22 => k_is)
    (case k22 => k_is)
    (case a23 => k_is)
    (case l23 => k_is)
    (case c23 => k_is)
    (case k23 => k_is)
    (case a24 => k_is)
    (case l24 => k_is)
    (case c24 => k_is)
    (case k24 => k_is)
    (case a25 => k_is)
    (case l25 => k_is)
    (case c25 => k_is)
    (case k25 => k_is)
    (case a26 => k_is)
    (case l26 => k_is)
    (case c26 => k_is)
    (case k26 => k_is)
    (case a27 => k_is)
    (case l27 => k_is)
    (case c27 => k_is)
    (case k27 => k_is)
    (case a28 => k_is)
    (case l28 => k_is)
    (case c28 => k_is)
    (case k28 => k_is)
    (case a29 => k_is)
    (case l29 => k_is)
    (case c29 => k_is)
    (case k29 => k_is)
    (case a30 => k_is)
    (case l30 => k_is)
    (case c30 => k_is)
    (case k30 => k_is)
    (case a31 => k_is)
    (case l31 => k_is)
    (case c31 => k_is)
    (case k31 => k_is)
    (case a32 => k_is)
    (case l32 => k_is)
    (case c32 => k_is)
    (case k32 => k_is)
    (case a33 => k_is)
    (case l33 => k_is)
    (case c33 => k_is)
    (case k33 => k_is)
    (case a34 => k_is)
    (case l34 => k_is)
    (case c34 => k_is)
    (case k34 => k_is)
    (case a35 => k_is)
    (case l35 => k_is)
    (case c35 => k_is)
    (case k35 => k_is)
    (case a36 => k_is)
    (case l36 => k_is)
    (case c36 => k_is)
    (case k36 => k_is)
    (case a37 => k_is)
    (case l37 => k_is)
    (case c37 => k_is)
    (case k37 => k_is)
    (case a38 => k_is)
    (case l38 => k_is)
    (case c38 => k_is)
    (case k38 => k_is)
    (case a39 => k_is)
    (case l39 => k_is)
    (case c39 => k_is)
    (case k39 => k_is)
    (case a40 => k_is)
    (case l40 => k_is)
    (case c40 => k_is)
    (case k40 => k_is)
    (case g_e0 => k_is)
    (case g_e1 => k_is)
    (case g_e2 => k_is)
    (case g_e3 => k_is)
    (case g_e4 => k_is)
    (case g_e5 => k_is)
    (case x_e5 => k_exc)
    (case k_e5 => k_is)
    (case b_e5 => k_is)
    (case t_e5 => k_is)
    (case s_e5 => k_is)
    (case hg_e5 => k_is)
    (case hk_e5 => k_is)
    (case hd_e5 => k_is)
    (case ha_e5 => k_is)
    (case hn_e5 => k_is)
    (case ht_e5 => k_is)
    (case hm_e5 => k_is)
    (case g_e6 => k_is)
    (case x_e6 => k_exc)
    (case k_e6 => k_is)
    (case b_e6 => k_is)
    (case t_e6 => k_is)
    (case s_e6 => k_is)
    (case hg_e6 => k_is)
    (case hk_e6 => k_is)
    (case hd_e6 => k_is)
    (case ha_e6 => k_is)
    (case hn_e6 => k_is)
    (case ht_e6 => k_is)
    (case hm_e6 => k_is)
    (case aC => k_is)
    (case pg => k_is)
    (case hd => k_is)
    (case po => k_is)
    (case sa => k_is)
    (case mk => k_is)
    (case kc => k_is)
    (case nR => k_is)
    (case a41 => k_is)
    (case i41 => k_is)
    (case l41 => k_is)
    (case c41 => k_is)
    (case k41 => k_is)
    (case a42 => k_is)
    (case i42 => k_is)
    (case l42 => k_is)
    (case c42 => k_is)
    (case k42 => k_is)
    (case a43 => k_is)
    (case i43 => k_is)
    (case l43 => k_is)
    (case c43 => k_is)
    (case k43 => k_is)
    (case a44 => k_is)
    (case i44 => k_is)
    (case l44 => k_is)
    (case c44 => k_is)
    (case k44 => k_is)
    (case a45 => k_is)
    (case i45 => k_is)
    (case l45 => k_is)
    (case c45 => k_is)
    (case k45 => k_is)
