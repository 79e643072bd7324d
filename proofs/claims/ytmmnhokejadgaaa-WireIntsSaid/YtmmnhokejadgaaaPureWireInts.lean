/- The statement WireInts over numbers and lists: proved in the text Laws. -/
import Derived.Test.YtmmnhokejadgaaaLaws
