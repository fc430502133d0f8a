/- Of the words that print.sh printed for this seat, those that this claim's walks use (cut by a program of mine). -/
import Derived.Test.YtaldemgfndmmlaaVTab
